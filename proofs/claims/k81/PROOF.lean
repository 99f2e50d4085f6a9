import PyProof.Rows.All
import Wide.All
import OpenK.AllK
import Wide.FinOn
import PyProof.EqAt
import PyProof.EqKinds
import PyProof.TupleCall
import HandS.ForMost
import HandS.Exc
import HandS.ExcOwn
import HandS.TryOnly
import HandS.WordsExc
import HandS.Star
import HandS.IsInst
import HandS.TupAny
import HandS.TupMul
import HandS.Zip
import HandS.Style
import HandS.Deep
import HandS.Lambda
import HandS.RaiseMore
import HandS.Defaults
import HandS.NoneIn
import HandS.SetFor
import KE.KDictPairs
import KE.KEqSeq
import KE.LtData
import KE.KDictKeyed
import HandS.Walk
import HandS.ExcIs
import KE.KExcIs
import HandS.ExcField
import HandS.ExcValue
import HandS.ExcInit
import HandS.Nested
import KE.KExcSuper
import HandS.SortKw
import KE.SortKeyHeap
import HandS.Wide
import HandS.WordsDict
import HandS.Conv
import HandS.More
import KE.KeyNested
import KE.SortData
import KE.KDictSum
import HandS.CallLocal
import HandS.HeadWalk
import HandS.HeadHook4
import KE.KStateDown
import Lean
import HandS.Base
import HandS.Call
import HandS.Ends
import HandS.Words
import HandS.Head0
import HandS.Head1
import HandS.Head2
import HandS.HeadEnd
import HandS.HeadHook1
import HandS.HeadHook2
import HandS.HeadHook3
import HandS.HeadNt
import PySem.Challenge.RW_firstwrong_k81_whole_counting_weavings
set_option Elab.async false
set_option linter.all false
set_option maxRecDepth 100000
/-! The plain law: weavings that keep a ledger, listed, counted, told by their places. No program here. -/
namespace K81M
abbrev Nm := Nat × Nat
abbrev En := Nm × Nm
def at0 (d : List Nat) (t : Nat) : Nat := d.getD t 0
def bump (d : List Nat) (t : Nat) : List Nat := d.set t (at0 d t + 1)
def freeB (E : List En) (d : List Nat) (t : Nat) : Bool := E.all fun e => !(decide (e.2 = (t, at0 d t))) || decide (e.1.2 < at0 d e.1.1)
def lets (c : List Nat) (E : List En) (d : List Nat) : List Nat := (List.range 4).filter fun t => decide (at0 d t < at0 c t) && freeB E d t
/-- all ways on from d, n steps -/
def allW (c : List Nat) (E : List En) : Nat → List Nat → List (List Nat)
  | 0, _ => [[]]
  | n + 1, d => (lets c E d).flatMap fun t => (allW c E n (bump d t)).map (t :: ·)
def Le (d c : List Nat) : Prop := d.length = 4 ∧ c.length = 4 ∧ ∀ t, t < 4 → at0 d t ≤ at0 c t
def rem (c d : List Nat) : Nat := c.sum - d.sum
def W (c : List Nat) (E : List En) (d : List Nat) : Nat := (allW c E (rem c d) d).length
def Path (c : List Nat) (E : List En) : List Nat → List Nat → Prop
  | d, [] => d = c
  | d, t :: r => t ∈ lets c E d ∧ Path c E (bump d t) r
def zero4 : List Nat := [0, 0, 0, 0]

theorem len4 {d : List Nat} (h : d.length = 4) : ∃ a b e f, d = [a, b, e, f] := by
  match d, h with
  | [a, b, e, f], _ => exact ⟨a, b, e, f, rfl⟩
theorem lt4 {t : Nat} (h : t < 4) : t = 0 ∨ t = 1 ∨ t = 2 ∨ t = 3 := by omega
theorem at0_bump {d : List Nat} {t u : Nat} (hd : d.length = 4) (ht : t < 4) : at0 (bump d t) u = if u = t then at0 d t + 1 else at0 d u := by
  unfold bump at0
  rw [List.getD_eq_getElem?_getD, List.getD_eq_getElem?_getD, List.getElem?_set]
  by_cases h : t = u
  · subst h
    simp [hd, ht]
  · have h' : ¬ u = t := fun e => h e.symm
    simp [h, h']
theorem bump_length (d : List Nat) (t : Nat) : (bump d t).length = d.length := by simp [bump]
theorem bump_sum {d : List Nat} {t : Nat} (hd : d.length = 4) (ht : t < 4) : (bump d t).sum = d.sum + 1 := by
  obtain ⟨a, b, e, f, rfl⟩ := len4 hd
  rcases lt4 ht with rfl | rfl | rfl | rfl <;> simp [bump, at0] <;> omega
theorem ext4 {d c : List Nat} (hd : d.length = 4) (hc : c.length = 4) (h : ∀ t, t < 4 → at0 d t = at0 c t) : d = c := by
  obtain ⟨a, b, e, f, rfl⟩ := len4 hd
  obtain ⟨a', b', e', f', rfl⟩ := len4 hc
  have h0 := h 0 (by omega); have h1 := h 1 (by omega); have h2 := h 2 (by omega); have h3 := h 3 (by omega)
  simp [at0] at h0 h1 h2 h3
  simp [h0, h1, h2, h3]
theorem mem_lets {c : List Nat} {E : List En} {d : List Nat} {t : Nat} : t ∈ lets c E d ↔ t < 4 ∧ at0 d t < at0 c t ∧ ∀ e ∈ E, e.2 = (t, at0 d t) → e.1.2 < at0 d e.1.1 := by
  unfold lets freeB
  rw [List.mem_filter, List.mem_range, Bool.and_eq_true, decide_eq_true_eq, List.all_eq_true]
  constructor
  · rintro ⟨h1, h2, h3⟩
    refine ⟨h1, h2, fun e he e2 => ?_⟩
    have := h3 e he
    simp [e2] at this
    exact this
  · rintro ⟨h1, h2, h3⟩
    refine ⟨h1, h2, fun e he => ?_⟩
    by_cases e2 : e.2 = (t, at0 d t)
    · simp [e2, h3 e he e2]
    · simp [e2]
theorem Le.bump {c d : List Nat} {t : Nat} (h : Le d c) (ht : t < 4) (hl : at0 d t < at0 c t) : Le (bump d t) c := by
  refine ⟨by rw [bump_length]; exact h.1, h.2.1, fun u hu => ?_⟩
  rw [at0_bump h.1 ht]
  split
  · rename_i e; subst e; omega
  · exact h.2.2 u hu
theorem Le.lets {c d : List Nat} {E : List En} {t : Nat} (h : Le d c) (ht : t ∈ lets c E d) : Le (K81M.bump d t) c := by
  obtain ⟨h1, h2, _⟩ := mem_lets.mp ht
  exact h.bump h1 h2
theorem Le.sum {c d : List Nat} (h : Le d c) : d.sum ≤ c.sum ∧ (d.sum = c.sum → d = c) := by
  obtain ⟨h1, h2, h3⟩ := h
  obtain ⟨a, b, e, f, rfl⟩ := len4 h1
  obtain ⟨a', b', e', f', rfl⟩ := len4 h2
  have q0 := h3 0 (by omega); have q1 := h3 1 (by omega); have q2 := h3 2 (by omega); have q3 := h3 3 (by omega)
  simp [at0] at q0 q1 q2 q3
  refine ⟨by simp; omega, fun h => ?_⟩
  simp at h ⊢
  omega
theorem Le.refl {c : List Nat} (h : c.length = 4) : Le c c := ⟨h, h, fun _ _ => Nat.le_refl _⟩
theorem Le.zero {c : List Nat} (h : c.length = 4) : Le zero4 c := ⟨rfl, h, fun t ht => by
  rcases lt4 ht with rfl | rfl | rfl | rfl <;> simp [at0, zero4]⟩
theorem rem_bump {c d : List Nat} {E : List En} {t n : Nat} (h : Le d c) (ht : t ∈ lets c E d) (hn : rem c d = n + 1) : rem c (bump d t) = n := by
  obtain ⟨h1, h2, _⟩ := mem_lets.mp ht
  have e := bump_sum (t := t) h.1 h1
  unfold rem at *
  omega
theorem rem_zero {c d : List Nat} (h : Le d c) (hn : rem c d = 0) : d = c := h.sum.2 (by have := h.sum.1; unfold rem at hn; omega)
theorem rem_self (c : List Nat) : rem c c = 0 := by unfold rem; omega
theorem rem_pos {c d : List Nat} (h : Le d c) (hne : d ≠ c) : ∃ n, rem c d = n + 1 := by
  cases e : rem c d with
  | zero => exact absurd (rem_zero h e) hne
  | succ n => exact ⟨n, rfl⟩
/-! ### what is listed -/
theorem mem_allW {c : List Nat} {E : List En} : ∀ {n : Nat} {d w : List Nat}, Le d c → rem c d = n → (w ∈ allW c E n d ↔ Path c E d w)
  | 0, d, w, h, hn => by
    have e := rem_zero h hn
    subst e
    unfold allW
    cases w with
    | nil => simp [Path]
    | cons t r =>
      simp only [List.mem_singleton, reduceCtorEq, false_iff]
      intro hp
      obtain ⟨h1, h2, _⟩ := mem_lets.mp hp.1
      omega
  | n + 1, d, w, h, hn => by
    unfold allW
    rw [List.mem_flatMap]
    cases w with
    | nil =>
      simp only [List.mem_map, Path]
      constructor
      · rintro ⟨t, _, x, _, e⟩; cases e
      · intro e; subst e; rw [rem_self] at hn; cases hn
    | cons t r =>
      simp only [List.mem_map, Path]
      constructor
      · rintro ⟨u, hu, x, hx, e⟩
        injection e with e1 e2
        subst e1 e2
        exact ⟨hu, (mem_allW (h.lets hu) (rem_bump h hu hn)).mp hx⟩
      · rintro ⟨ht, hp⟩
        exact ⟨t, ht, r, (mem_allW (h.lets ht) (rem_bump h ht hn)).mpr hp, rfl⟩
theorem Path.length {c : List Nat} {E : List En} : ∀ {w d : List Nat}, Le d c → Path c E d w → w.length = rem c d
  | [], d, h, hp => by
    have : d = c := hp
    subst this; rw [rem_self]; rfl
  | t :: r, d, h, hp => by
    obtain ⟨h1, h2, h3⟩ := mem_lets.mp hp.1
    have q := Path.length (h.lets hp.1) hp.2
    have e := bump_sum (t := t) h.1 h1
    have z := (h.lets hp.1).sum.1
    rw [List.length_cons, q]
    unfold rem at *
    omega
theorem Path.lt4 {c : List Nat} {E : List En} : ∀ {w d : List Nat}, Path c E d w → ∀ t ∈ w, t < 4
  | [], _, _, t, h => by cases h
  | u :: r, d, hp, t, h => by
    rcases List.mem_cons.mp h with e | h
    · subst e; exact (mem_lets.mp hp.1).1
    · exact Path.lt4 hp.2 t h
/-- there is a step left that may be done, wherever one stands -/
theorem progress {c : List Nat} {E : List En} {d : List Nat} (hd : Le d c) (hne : d ≠ c) : ∀ {w z : List Nat}, Le z d → Path c E z w → ∃ t, t ∈ lets c E d
  | [], z, hz, hp => by
    have e : z = c := hp
    subst e
    refine absurd (ext4 hd.1 hd.2.1 fun t ht => Nat.le_antisymm (hd.2.2 t ht) (hz.2.2 t ht)) hne
  | t :: r, z, hz, hp => by
    obtain ⟨h1, h2, h3⟩ := mem_lets.mp hp.1
    by_cases hlt : at0 z t < at0 d t
    · refine progress hd hne ⟨by rw [bump_length]; exact hz.1, hd.1, fun u hu => ?_⟩ hp.2
      rw [at0_bump hz.1 h1]
      split
      · rename_i e; subst e; omega
      · exact hz.2.2 u hu
    · have e : at0 z t = at0 d t := Nat.le_antisymm (hz.2.2 t h1) (by omega)
      refine ⟨t, mem_lets.mpr ⟨h1, by omega, fun x hx e2 => ?_⟩⟩
      have q := h3 x hx (by rw [e]; exact e2)
      by_cases hx1 : x.1.1 < 4
      · exact Nat.lt_of_lt_of_le q (hz.2.2 _ hx1)
      · have : at0 z x.1.1 = 0 := by
          unfold at0
          rw [List.getD_eq_getElem?_getD, List.getElem?_eq_none (by rw [hz.1]; omega)]
          rfl
        omega
/-- a ledger that some weaving keeps -/
def Good (c : List Nat) (E : List En) : Prop := c.length = 4 ∧ ∃ w, Path c E zero4 w
theorem Le.from_zero {d : List Nat} (h : d.length = 4) : Le zero4 d := Le.zero h
theorem Good.progress {c : List Nat} {E : List En} {d : List Nat} (g : Good c E) (hd : Le d c) (hne : d ≠ c) : lets c E d ≠ [] := by
  obtain ⟨w, hw⟩ := g.2
  obtain ⟨t, ht⟩ := K81M.progress hd hne (Le.zero hd.1) hw
  exact List.ne_nil_of_mem ht
/-- the first way on -/
def wv (c : List Nat) (E : List En) : Nat → List Nat → List Nat
  | 0, _ => []
  | n + 1, d => match lets c E d with
    | [] => []
    | t :: _ => t :: wv c E n (bump d t)
theorem head_allW {c : List Nat} {E : List En} (g : Good c E) : ∀ {n : Nat} {d : List Nat}, Le d c → rem c d = n → (allW c E n d)[0]? = some (wv c E n d)
  | 0, d, _, _ => rfl
  | n + 1, d, h, hn => by
    have hne : d ≠ c := fun e => by subst e; rw [rem_self] at hn; cases hn
    have hp := g.progress h hne
    unfold allW wv
    cases e : lets c E d with
    | nil => exact absurd e hp
    | cons t ts =>
      have ht : t ∈ lets c E d := by rw [e]; exact List.mem_cons_self
      have ih := head_allW g (h.lets ht) (rem_bump h ht hn)
      rw [List.flatMap_cons]
      cases q : allW c E n (bump d t) with
      | nil => rw [q] at ih; cases ih
      | cons x xs =>
        rw [q] at ih
        simp at ih ⊢
        exact ih
theorem wv_path {c : List Nat} {E : List En} (g : Good c E) {d : List Nat} (h : Le d c) : Path c E d (wv c E (rem c d) d) :=
  (mem_allW h rfl).mp (List.mem_of_getElem? (head_allW g h rfl))
/-! ### how many -/
theorem W_self {c : List Nat} {E : List En} : W c E c = 1 := by unfold W; rw [rem_self]; rfl
theorem W_step {c : List Nat} {E : List En} {d : List Nat} (h : Le d c) (hne : d ≠ c) : W c E d = ((lets c E d).map fun t => W c E (bump d t)).sum := by
  obtain ⟨n, hn⟩ := rem_pos h hne
  unfold W
  rw [hn]
  show ((lets c E d).flatMap fun t => (allW c E n (bump d t)).map (t :: ·)).length = _
  rw [List.length_flatMap]
  congr 1
  refine List.map_congr_left fun t ht => ?_
  rw [List.length_map, rem_bump h ht hn]
theorem W_pos {c : List Nat} {E : List En} (g : Good c E) {d : List Nat} (h : Le d c) : 0 < W c E d := by
  unfold W
  exact List.length_pos_of_mem (List.mem_of_getElem? (head_allW g h rfl))
/-! ### which one stands where -/
theorem flat_at {f : Nat → List (List Nat)} : ∀ (ts : List Nat) (i : Nat) (w : List Nat), (ts.flatMap fun t => (f t).map (t :: ·))[i]? = some w →
    ∃ a t b j r, ts = a ++ t :: b ∧ w = t :: r ∧ (f t)[j]? = some r ∧ i = (a.map fun u => (f u).length).sum + j
  | [], i, w, h => by simp at h
  | t :: ts, i, w, h => by
    rw [List.flatMap_cons] at h
    by_cases hi : i < (f t).length
    · rw [List.getElem?_append_left (by rw [List.length_map]; exact hi), List.getElem?_map] at h
      cases q : (f t)[i]? with
      | none => rw [q] at h; cases h
      | some r =>
        rw [q] at h
        exact ⟨[], t, ts, i, r, rfl, (Option.some.inj h).symm, q, by simp⟩
    · rw [List.getElem?_append_right (by rw [List.length_map]; omega), List.length_map] at h
      obtain ⟨a, u, b, j, r, e1, e2, e3, e4⟩ := flat_at ts (i - (f t).length) w h
      exact ⟨t :: a, u, b, j, r, by rw [e1]; rfl, e2, e3, by rw [List.map_cons, List.sum_cons]; omega⟩
theorem flat_of {f : Nat → List (List Nat)} {a b : List Nat} {t j : Nat} {r : List Nat} (h : (f t)[j]? = some r) :
    ((a ++ t :: b).flatMap fun t => (f t).map (t :: ·))[(a.map fun u => (f u).length).sum + j]? = some (t :: r) := by
  induction a with
  | nil =>
    have hj : j < (f t).length := (List.getElem?_eq_some_iff.mp h).1
    simp only [List.nil_append, List.map_nil, List.sum_nil, Nat.zero_add, List.flatMap_cons]
    rw [List.getElem?_append_left (by rw [List.length_map]; exact hj), List.getElem?_map, h]
    rfl
  | cons u a ih =>
    simp only [List.cons_append, List.map_cons, List.sum_cons, List.flatMap_cons]
    rw [List.getElem?_append_right (by rw [List.length_map]; omega), List.length_map]
    rw [show (f u).length + (a.map fun u => (f u).length).sum + j - (f u).length = (a.map fun u => (f u).length).sum + j by omega]
    exact ih
theorem lets_sorted (c : List Nat) (E : List En) (d : List Nat) : (lets c E d).Pairwise (· < ·) := (List.pairwise_lt_range).filter _
/-- the place of a weaving -/
def plc (c : List Nat) (E : List En) : List Nat → List Nat → Nat
  | _, [] => 0
  | d, t :: r => (((lets c E d).filter fun u => decide (u < t)).map fun u => W c E (bump d u)).sum + plc c E (bump d t) r
theorem filter_lt {a b : List Nat} {t : Nat} (h : (a ++ t :: b).Pairwise (· < ·)) : (a ++ t :: b).filter (fun u => decide (u < t)) = a := by
  rw [List.pairwise_append] at h
  obtain ⟨h1, h2, h3⟩ := h
  rw [List.pairwise_cons] at h2
  rw [List.filter_append, List.filter_cons]
  have e1 : a.filter (fun u => decide (u < t)) = a := List.filter_eq_self.mpr fun u hu => decide_eq_true (h3 u hu t List.mem_cons_self)
  have e2 : b.filter (fun u => decide (u < t)) = [] := List.filter_eq_nil_iff.mpr fun u hu => by
    have := h2.1 u hu
    simp; omega
  simp [e1, e2]
theorem plc_at {c : List Nat} {E : List En} : ∀ {n : Nat} {d : List Nat}, Le d c → rem c d = n → ∀ {i : Nat} {w : List Nat}, (allW c E n d)[i]? = some w → plc c E d w = i
  | 0, d, _, _, i, w, h => by
    unfold allW at h
    cases i with
    | zero => simp at h; subst h; rfl
    | succ i => simp at h
  | n + 1, d, h, hn, i, w, hi => by
    unfold allW at hi
    obtain ⟨a, t, b, j, r, e1, e2, e3, e4⟩ := flat_at _ _ _ hi
    have ht : t ∈ lets c E d := by rw [e1]; simp
    subst e2
    unfold plc
    have hs := lets_sorted c E d
    rw [plc_at (h.lets ht) (rem_bump h ht hn) e3, e4]
    rw [e1] at hs
    rw [e1, filter_lt hs]
    congr 2
    refine List.map_congr_left fun u hu => ?_
    have hu' : u ∈ lets c E d := by rw [e1]; simp [hu]
    unfold W
    rw [rem_bump h hu' hn]
/-- the weaving at a place -/
def pick (c : List Nat) (E : List En) (d : List Nat) : List Nat → Nat → Option (Nat × Nat)
  | [], _ => none
  | t :: ts, k => if k < W c E (bump d t) then some (t, k) else pick c E d ts (k - W c E (bump d t))
theorem pick_at {c : List Nat} {E : List En} {d : List Nat} : ∀ (ts : List Nat) (k : Nat), k < (ts.map fun t => W c E (bump d t)).sum → ∃ a t b j, ts = a ++ t :: b ∧ pick c E d ts k = some (t, j) ∧ j < W c E (bump d t) ∧ k = (a.map fun u => W c E (bump d u)).sum + j
  | [], k, h => by simp at h
  | t :: ts, k, h => by
    unfold pick
    by_cases hk : k < W c E (bump d t)
    · rw [if_pos hk]
      exact ⟨[], t, ts, k, rfl, rfl, hk, by simp⟩
    · rw [if_neg hk]
      rw [List.map_cons, List.sum_cons] at h
      obtain ⟨a, u, b, j, e1, e2, e3, e4⟩ := pick_at (c := c) (E := E) (d := d) ts (k - W c E (bump d t)) (by omega)
      exact ⟨t :: a, u, b, j, by rw [e1]; rfl, e2, e3, by rw [List.map_cons, List.sum_cons]; omega⟩
/-- one turn of the descent: where k of d lies -/
theorem down {c : List Nat} {E : List En} {d : List Nat} (h : Le d c) (hne : d ≠ c) {k : Nat} (hk : k < W c E d) :
    ∃ t j, pick c E d (lets c E d) k = some (t, j) ∧ t ∈ lets c E d ∧ j < W c E (bump d t) ∧ ∀ r, (allW c E (rem c (bump d t)) (bump d t))[j]? = some r → (allW c E (rem c d) d)[k]? = some (t :: r) := by
  obtain ⟨n, hn⟩ := rem_pos h hne
  rw [W_step h hne] at hk
  obtain ⟨a, t, b, j, e1, e2, e3, e4⟩ := pick_at (lets c E d) k hk
  have ht : t ∈ lets c E d := by rw [e1]; simp
  refine ⟨t, j, e2, ht, e3, fun r hr => ?_⟩
  rw [rem_bump h ht hn] at hr
  rw [hn]
  show ((lets c E d).flatMap fun t => (allW c E n (bump d t)).map (t :: ·))[k]? = _
  have q := flat_of (f := fun t => allW c E n (bump d t)) (a := a) (b := b) hr
  rw [← e1] at q
  rw [e4, show (a.map fun u => W c E (bump d u)) = (a.map fun u => (allW c E n (bump d u)).length) from ?_]
  · exact q
  · refine List.map_congr_left fun u hu => ?_
    have hu' : u ∈ lets c E d := by rw [e1]; simp [hu]
    unfold W
    rw [rem_bump h hu' hn]
/-- the weaving behind -/
def nxt (c : List Nat) (E : List En) : List Nat → List Nat → Option (List Nat)
  | _, [] => none
  | d, t :: r => match nxt c E (bump d t) r with
    | some r' => some (t :: r')
    | none => match (lets c E d).filter (fun u => decide (t < u)) with
      | [] => none
      | u :: _ => some (u :: wv c E (rem c (bump d u)) (bump d u))
theorem filter_gt {a b : List Nat} {t : Nat} (h : (a ++ t :: b).Pairwise (· < ·)) : (a ++ t :: b).filter (fun u => decide (t < u)) = b := by
  rw [List.pairwise_append] at h
  obtain ⟨h1, h2, h3⟩ := h
  rw [List.pairwise_cons] at h2
  rw [List.filter_append, List.filter_cons]
  have e1 : a.filter (fun u => decide (t < u)) = [] := List.filter_eq_nil_iff.mpr fun u hu => by
    have := h3 u hu t List.mem_cons_self
    simp; omega
  have e2 : b.filter (fun u => decide (t < u)) = b := List.filter_eq_self.mpr fun u hu => decide_eq_true (h2.1 u hu)
  simp [e1, e2]
theorem nxt_at {c : List Nat} {E : List En} (g : Good c E) : ∀ {n : Nat} {d : List Nat}, Le d c → rem c d = n → ∀ {i : Nat} {w : List Nat}, (allW c E n d)[i]? = some w → nxt c E d w = (allW c E n d)[i + 1]?
  | 0, d, _, _, i, w, h => by
    unfold allW at h ⊢
    cases i with
    | zero => simp at h; subst h; rfl
    | succ i => simp at h
  | n + 1, d, h, hn, i, w, hi => by
    unfold allW at hi ⊢
    obtain ⟨a, t, b, j, r, e1, e2, e3, e4⟩ := flat_at _ _ _ hi
    have ht : t ∈ lets c E d := by rw [e1]; simp
    have hs := lets_sorted c E d
    subst e2
    unfold nxt
    rw [nxt_at g (h.lets ht) (rem_bump h ht hn) e3]
    cases q : (allW c E n (bump d t))[j + 1]? with
    | some r' =>
      have z := flat_of (f := fun t => allW c E n (bump d t)) (a := a) (b := b) q
      rw [← e1, ← Nat.add_assoc, ← e4] at z
      exact z.symm
    | none =>
      rw [e1] at hs
      show (match (lets c E d).filter (fun u => decide (t < u)) with
        | [] => none
        | u :: _ => some (u :: wv c E (rem c (bump d u)) (bump d u))) = _
      rw [e1, filter_gt hs]
      have hj : (allW c E n (bump d t)).length = j + 1 := by
        have h1 := (List.getElem?_eq_some_iff.mp e3).1
        have h2 := List.getElem?_eq_none_iff.mp q
        omega
      cases b with
      | nil =>
        symm
        rw [List.getElem?_eq_none_iff, List.length_flatMap]
        simp only [List.length_map, List.map_append, List.map_cons, List.map_nil, List.sum_append, List.sum_cons, List.sum_nil]
        omega
      | cons u b =>
        have hu : u ∈ lets c E d := by rw [e1]; simp
        have z := flat_of (f := fun t => allW c E n (bump d t)) (a := a ++ [t]) (b := b) (t := u) (j := 0) (r := wv c E n (bump d u)) (head_allW g (h.lets hu) (rem_bump h hu hn))
        rw [List.append_assoc] at z
        simp only [List.cons_append, List.nil_append, List.map_append, List.map_cons, List.map_nil, List.sum_append, List.sum_cons, List.sum_nil, hj] at z
        rw [e4]
        show some (u :: wv c E (rem c (bump d u)) (bump d u)) = _
        rw [rem_bump h hu hn, ← z]
        congr 1
end K81M
/-! The plain law, second part: what keeps a ledger by its names; the law's own list; two threads alone. -/
namespace K81M
/-! ### names -/
def namesF : List Nat → List Nat → List Nm
  | _, [] => []
  | d, t :: r => (t, at0 d t) :: namesF (bump d t) r
def names (w : List Nat) : List Nm := namesF zero4 w
/-- every entry's names are steps of c -/
def EntsIn (c : List Nat) (E : List En) : Prop := ∀ e ∈ E, (e.1.1 < 4 ∧ e.1.2 < at0 c e.1.1) ∧ e.2.1 < 4 ∧ e.2.2 < at0 c e.2.1
def Ord (E : List En) (d w : List Nat) : Prop := ∀ e ∈ E, at0 d e.2.1 ≤ e.2.2 → e.1.2 < at0 d e.1.1 ∨ (namesF d w).idxOf e.1 < (namesF d w).idxOf e.2
def CountsTo (d w c : List Nat) : Prop := ∀ t, t < 4 → at0 d t + w.count t = at0 c t
theorem idxOf_cons_self' (x : Nm) (l : List Nm) : (x :: l).idxOf x = 0 := by simp
theorem idxOf_cons_ne' {x y : Nm} (l : List Nm) (h : y ≠ x) : (x :: l).idxOf y = l.idxOf y + 1 := by
  rw [List.idxOf_cons]
  have : (x == y) = false := by simpa using fun e : x = y => h e.symm
  rw [this]
  rfl
theorem path_iff {c : List Nat} {E : List En} (hE : EntsIn c E) (hc : c.length = 4) : ∀ {w d : List Nat}, d.length = 4 →
    (Path c E d w ↔ (∀ t ∈ w, t < 4) ∧ CountsTo d w c ∧ Ord E d w)
  | [], d, hd => by
    constructor
    · intro hp
      have e : d = c := hp
      subst e
      refine ⟨fun t h => (by cases h), fun t _ => (by simp), fun e he hle => ?_⟩
      have := (hE e he).2.2
      omega
    · rintro ⟨_, h, _⟩
      exact ext4 hd hc fun t ht => by have := h t ht; simpa using this
  | t :: r, d, hd => by
    have hb : (bump d t).length = 4 := by rw [bump_length]; exact hd
    have ih := path_iff hE hc (w := r) hb
    show (t ∈ lets c E d ∧ Path c E (bump d t) r) ↔ _
    rw [ih]
    constructor
    · rintro ⟨ht, h1, h2, h3⟩
      obtain ⟨t4, tl, tf⟩ := mem_lets.mp ht
      refine ⟨fun u hu => ?_, fun u hu => ?_, fun e he hle => ?_⟩
      · rcases List.mem_cons.mp hu with rfl | hu
        · exact t4
        · exact h1 u hu
      · have q := h2 u hu
        rw [at0_bump hd t4] at q
        rw [List.count_cons]
        by_cases hut : u = t
        · subst hut; rw [if_pos rfl] at q; simp; omega
        · rw [if_neg hut] at q
          have : (t == u) = false := by simpa using fun e : t = u => hut e.symm
          rw [this]; simpa using q
      · by_cases h2e : e.2 = (t, at0 d t)
        · exact .inl (tf e he h2e)
        · have hle' : at0 (bump d t) e.2.1 ≤ e.2.2 := by
            rw [at0_bump hd t4]
            split
            · rename_i q
              have : e.2.2 ≠ at0 d t := fun z => h2e (Prod.ext q z)
              rw [q] at hle
              omega
            · exact hle
          show _ ∨ ((t, at0 d t) :: namesF (bump d t) r).idxOf e.1 < ((t, at0 d t) :: namesF (bump d t) r).idxOf e.2
          rw [idxOf_cons_ne' _ h2e]
          rcases h3 e he hle' with q | q
          · rw [at0_bump hd t4] at q
            by_cases q1 : e.1.1 = t
            · rw [if_pos q1] at q
              by_cases q2 : e.1.2 = at0 d t
              · right
                rw [show e.1 = (t, at0 d t) from Prod.ext q1 q2, idxOf_cons_self']
                omega
              · left; rw [q1]; omega
            · rw [if_neg q1] at q; exact .inl q
          · by_cases h1e : e.1 = (t, at0 d t)
            · right; rw [h1e, idxOf_cons_self']; omega
            · right; rw [idxOf_cons_ne' _ h1e]; omega
    · rintro ⟨h1, h2, h3⟩
      have t4 : t < 4 := h1 t List.mem_cons_self
      have hct := h2 t t4
      rw [List.count_cons] at hct
      simp at hct
      have free : ∀ e ∈ E, e.2 = (t, at0 d t) → e.1.2 < at0 d e.1.1 := fun e he h2e => by
        have hle : at0 d e.2.1 ≤ e.2.2 := by rw [h2e]; exact Nat.le_refl _
        rcases h3 e he hle with q | q
        · exact q
        · have q' : ((t, at0 d t) :: namesF (bump d t) r).idxOf e.1 < ((t, at0 d t) :: namesF (bump d t) r).idxOf e.2 := q
          rw [h2e, idxOf_cons_self'] at q'
          omega
      refine ⟨mem_lets.mpr ⟨t4, by omega, free⟩, fun u hu => h1 u (List.mem_cons_of_mem _ hu), fun u hu => ?_, fun e he hle => ?_⟩
      · have q := h2 u hu
        rw [List.count_cons] at q
        rw [at0_bump hd t4]
        by_cases hut : u = t
        · subst hut; rw [if_pos rfl]; simp at q; omega
        · rw [if_neg hut]
          have : (t == u) = false := by simpa using fun e : t = u => hut e.symm
          rw [this] at q; simpa using q
      · have h2e : e.2 ≠ (t, at0 d t) := fun z => by
          rw [at0_bump hd t4, z] at hle
          simp at hle
          omega
        have hle' : at0 d e.2.1 ≤ e.2.2 := by
          rw [at0_bump hd t4] at hle
          split at hle
          · rename_i q; rw [q]; omega
          · exact hle
        rcases h3 e he hle' with q | q
        · left
          rw [at0_bump hd t4]
          split
          · rename_i q1; rw [q1] at q; omega
          · exact q
        · have q' : ((t, at0 d t) :: namesF (bump d t) r).idxOf e.1 < ((t, at0 d t) :: namesF (bump d t) r).idxOf e.2 := q
          rw [idxOf_cons_ne' _ h2e] at q'
          by_cases h1e : e.1 = (t, at0 d t)
          · left
            rw [h1e, at0_bump hd t4, if_pos rfl]
            exact Nat.lt_succ_self _
          · rw [idxOf_cons_ne' _ h1e] at q'
            right
            omega
def countsOf (w : List Nat) : List Nat := [w.count 0, w.count 1, w.count 2, w.count 3]
def KeptB (c : List Nat) (E : List En) (w : List Nat) : Bool := decide (countsOf w = c) && E.all fun e => decide ((names w).idxOf e.1 < (names w).idxOf e.2)
theorem at0_zero (t : Nat) : at0 zero4 t = 0 := by
  unfold at0 zero4
  match t with
  | 0 => rfl
  | 1 => rfl
  | 2 => rfl
  | 3 => rfl
  | n + 4 => simp
theorem countsOf_to {w c : List Nat} (hc : c.length = 4) : countsOf w = c ↔ CountsTo zero4 w c := by
  constructor
  · rintro rfl t ht
    rcases lt4 ht with rfl | rfl | rfl | rfl <;> simp [countsOf, at0, zero4]
  · intro h
    refine ext4 rfl hc fun t ht => ?_
    have q := h t ht
    rw [at0_zero] at q
    rcases lt4 ht with rfl | rfl | rfl | rfl <;> simp [countsOf, at0] at q ⊢ <;> omega
theorem kept_iff {c : List Nat} {E : List En} (hE : EntsIn c E) (hc : c.length = 4) {w : List Nat} (hw : ∀ t ∈ w, t < 4) : KeptB c E w = true ↔ Path c E zero4 w := by
  rw [path_iff hE hc rfl, ← countsOf_to hc]
  unfold KeptB
  rw [Bool.and_eq_true, decide_eq_true_eq, List.all_eq_true]
  constructor
  · rintro ⟨h1, h2⟩
    exact ⟨hw, h1, fun e he _ => .inr (of_decide_eq_true (h2 e he))⟩
  · rintro ⟨_, h1, h2⟩
    refine ⟨h1, fun e he => ?_⟩
    rcases h2 e he (by rw [at0_zero]; exact Nat.zero_le _) with q | q
    · rw [at0_zero] at q; omega
    · exact decide_eq_true q
/-! ### the names of a weaving stand apart -/
theorem namesF_ge : ∀ {w d : List Nat}, d.length = 4 → (∀ t ∈ w, t < 4) → ∀ n ∈ namesF d w, n.1 < 4 ∧ at0 d n.1 ≤ n.2 ∧ n.2 < at0 d n.1 + w.count n.1
  | [], _, _, _, n, h => by cases h
  | t :: r, d, hd, hw, n, h => by
    have t4 := hw t List.mem_cons_self
    have hb : (bump d t).length = 4 := by rw [bump_length]; exact hd
    rcases List.mem_cons.mp h with e | h
    · subst e
      refine ⟨t4, Nat.le_refl _, ?_⟩
      rw [List.count_cons]
      simp only [beq_self_eq_true, if_true]
      omega
    · obtain ⟨q1, q2, q3⟩ := namesF_ge hb (fun u hu => hw u (List.mem_cons_of_mem _ hu)) n h
      rw [at0_bump hd t4] at q2 q3
      rw [List.count_cons]
      by_cases e : n.1 = t
      · rw [if_pos e] at q2 q3
        rw [e] at q3 ⊢
        simp
        omega
      · rw [if_neg e] at q2 q3
        have : (t == n.1) = false := by simpa using fun z : t = n.1 => e z.symm
        rw [this]
        exact ⟨q1, q2, by simpa using q3⟩
theorem namesF_nodup : ∀ {w d : List Nat}, d.length = 4 → (∀ t ∈ w, t < 4) → (namesF d w).Nodup
  | [], _, _, _ => List.nodup_nil
  | t :: r, d, hd, hw => by
    have t4 := hw t List.mem_cons_self
    have hb : (bump d t).length = 4 := by rw [bump_length]; exact hd
    have hr : ∀ u ∈ r, u < 4 := fun u hu => hw u (List.mem_cons_of_mem _ hu)
    refine List.nodup_cons.mpr ⟨fun h => ?_, namesF_nodup hb hr⟩
    have q := (namesF_ge hb hr _ h).2.1
    rw [at0_bump hd t4] at q
    simp at q
    omega
theorem namesF_length : ∀ {w d : List Nat}, (namesF d w).length = w.length
  | [], _ => rfl
  | t :: r, d => by simp [namesF, namesF_length (w := r)]
theorem namesF_mem : ∀ {w d : List Nat}, d.length = 4 → (∀ t ∈ w, t < 4) → ∀ n : Nm, n.1 < 4 → at0 d n.1 ≤ n.2 → n.2 < at0 d n.1 + w.count n.1 → n ∈ namesF d w
  | [], d, _, _, n, _, h1, h2 => by simp at h2; omega
  | t :: r, d, hd, hw, n, h4, h1, h2 => by
    have t4 := hw t List.mem_cons_self
    have hb : (bump d t).length = 4 := by rw [bump_length]; exact hd
    by_cases e : n = (t, at0 d t)
    · subst e; exact List.mem_cons_self
    · refine List.mem_cons_of_mem _ (namesF_mem hb (fun u hu => hw u (List.mem_cons_of_mem _ hu)) n h4 ?_ ?_)
      · rw [at0_bump hd t4]
        split
        · rename_i q
          have : n.2 ≠ at0 d t := fun z => e (Prod.ext q z)
          rw [q] at h1
          omega
        · exact h1
      · rw [at0_bump hd t4]
        rw [List.count_cons] at h2
        split
        · rename_i q; rw [q] at h2 ⊢; simp at h2; omega
        · rename_i q
          have : (t == n.1) = false := by simpa using fun z : t = n.1 => q z.symm
          rw [this] at h2
          simpa using h2
/-- entries drawn from a weaving's names, the first one ahead: the weaving keeps them -/
theorem good_of {w : List Nat} {E : List En} (hw : ∀ t ∈ w, t < 4) (hE : ∀ e ∈ E, ∃ i j : Nat, i < j ∧ (names w)[i]? = some e.1 ∧ (names w)[j]? = some e.2) :
    EntsIn (countsOf w) E ∧ Path (countsOf w) E zero4 w := by
  have hn : (names w).Nodup := namesF_nodup rfl hw
  have at_ : ∀ n ∈ names w, n.1 < 4 ∧ n.2 < at0 (countsOf w) n.1 := fun n hn => by
    obtain ⟨q1, q2, q3⟩ := namesF_ge rfl hw n hn
    refine ⟨q1, ?_⟩
    rw [at0_zero] at q3
    have z := (countsOf_to (w := w) (c := countsOf w) rfl).mp rfl n.1 q1
    rw [at0_zero] at z
    omega
  have hin : EntsIn (countsOf w) E := fun e he => by
    obtain ⟨i, j, _, h1, h2⟩ := hE e he
    exact ⟨at_ _ (List.mem_of_getElem? h1), at_ _ (List.mem_of_getElem? h2)⟩
  refine ⟨hin, (kept_iff hin rfl hw).mp ?_⟩
  unfold KeptB
  rw [Bool.and_eq_true, decide_eq_true_eq, List.all_eq_true]
  refine ⟨rfl, fun e he => ?_⟩
  obtain ⟨i, j, hij, h1, h2⟩ := hE e he
  have idx : ∀ {k : Nat} {n : Nm}, (names w)[k]? = some n → (names w).idxOf n = k := fun {k n} h => by
    obtain ⟨hk, e⟩ := List.getElem?_eq_some_iff.mp h
    rw [← e]
    exact hn.idxOf_getElem k hk
  rw [idx h1, idx h2]
  exact decide_eq_true hij
/-! ### the law's own list: all ways of n steps, from the left -/
def paths (c : List Nat) (E : List En) : Nat → List Nat → List (List Nat × List Nat)
  | 0, d => [([], d)]
  | n + 1, d => (lets c E d).flatMap fun t => (paths c E n (bump d t)).map fun p => (t :: p.1, p.2)
def wider (c : List Nat) (E : List En) (l : List (List Nat × List Nat)) : List (List Nat × List Nat) := l.flatMap fun p => (lets c E p.2).map fun t => (p.1 ++ [t], bump p.2 t)
def line (c : List Nat) (E : List En) : Nat → List (List Nat × List Nat)
  | 0 => [([], zero4)]
  | n + 1 => wider c E (line c E n)
theorem flat_congr {α β : Type} {f g : α → List β} : ∀ {l : List α}, (∀ x ∈ l, f x = g x) → l.flatMap f = l.flatMap g
  | [], _ => rfl
  | x :: l, h => by rw [List.flatMap_cons, List.flatMap_cons, h x List.mem_cons_self, flat_congr fun y hy => h y (List.mem_cons_of_mem _ hy)]
theorem wider_paths {c : List Nat} {E : List En} : ∀ (n : Nat) (d : List Nat), wider c E (paths c E n d) = paths c E (n + 1) d
  | 0, d => by
    show wider c E [([], d)] = (lets c E d).flatMap fun t => ([([], bump d t)] : List (List Nat × List Nat)).map fun p => (t :: p.1, p.2)
    unfold wider
    simp [List.flatMap_cons, List.flatMap_nil, List.map_eq_flatMap]
  | n + 1, d => by
    show wider c E ((lets c E d).flatMap fun t => (paths c E n (bump d t)).map fun p => (t :: p.1, p.2)) = (lets c E d).flatMap fun t => (paths c E (n + 1) (bump d t)).map fun p => (t :: p.1, p.2)
    unfold wider
    rw [List.flatMap_assoc]
    refine flat_congr fun t _ => ?_
    rw [← wider_paths n (bump d t)]
    unfold wider
    rw [List.flatMap_map, List.map_flatMap]
    refine flat_congr fun p _ => ?_
    rw [List.map_map]
    rfl
theorem line_eq (c : List Nat) (E : List En) : ∀ n, line c E n = paths c E n zero4
  | 0 => rfl
  | n + 1 => by
    show wider c E (line c E n) = _
    rw [line_eq c E n, wider_paths]
theorem paths_fst {c : List Nat} {E : List En} : ∀ (n : Nat) (d : List Nat), (paths c E n d).map (·.1) = allW c E n d
  | 0, _ => rfl
  | n + 1, d => by
    show ((lets c E d).flatMap fun t => (paths c E n (bump d t)).map fun p => (t :: p.1, p.2)).map (·.1) = (lets c E d).flatMap fun t => (allW c E n (bump d t)).map (t :: ·)
    rw [List.map_flatMap]
    refine flat_congr fun t _ => ?_
    rw [← paths_fst n (bump d t), List.map_map, List.map_map]
    rfl
theorem lets_le (c : List Nat) (E : List En) (d : List Nat) : (lets c E d).length ≤ 4 := by
  have h := List.length_filter_le (fun t => decide (at0 d t < at0 c t) && freeB E d t) (List.range 4)
  simpa [lets] using h
theorem wider_length {c : List Nat} {E : List En} : ∀ l : List (List Nat × List Nat), (wider c E l).length ≤ 4 * l.length
  | [] => by simp [wider]
  | p :: l => by
    have ih := wider_length (c := c) (E := E) l
    have h := lets_le c E p.2
    unfold wider at *
    rw [List.flatMap_cons, List.length_append, List.length_map, List.length_cons]
    omega
theorem line_length (c : List Nat) (E : List En) : ∀ n, (line c E n).length ≤ 4 ^ n
  | 0 => Nat.le_refl _
  | n + 1 => by
    have h := wider_length (c := c) (E := E) (line c E n)
    have ih := line_length c E n
    show (wider c E (line c E n)).length ≤ _
    rw [Nat.pow_succ]
    omega
theorem line_len4 {c : List Nat} {E : List En} : ∀ n, ∀ p ∈ line c E n, p.2.length = 4 ∧ p.1.length = n ∧ ∀ t ∈ p.1, t < 4
  | 0, p, h => by
    simp [line] at h; subst h
    exact ⟨rfl, rfl, fun t h => by cases h⟩
  | n + 1, p, h => by
    obtain ⟨q, hq, h2⟩ := List.mem_flatMap.mp (show p ∈ wider c E (line c E n) from h)
    obtain ⟨t, ht, e⟩ := List.mem_map.mp h2
    subst e
    obtain ⟨a, b, d⟩ := line_len4 n q hq
    refine ⟨by rw [bump_length]; exact a, by simp [b], fun u hu => ?_⟩
    rcases List.mem_append.mp hu with hu | hu
    · exact d u hu
    · simp at hu; subst hu; exact (mem_lets.mp ht).1
/-- what _law_all_woven tells -/
def every (c : List Nat) (E : List En) : List (List Nat) := allW c E c.sum zero4
theorem every_line (c : List Nat) (E : List En) : (line c E c.sum).map (·.1) = every c E := by rw [line_eq]; exact paths_fst _ _
theorem every_rem (c : List Nat) (E : List En) : every c E = allW c E (rem c zero4) zero4 := by unfold every rem zero4; simp
theorem every_length (c : List Nat) (E : List En) : (every c E).length = W c E zero4 := by rw [every_rem]; rfl
theorem every_le (c : List Nat) (E : List En) : (every c E).length ≤ 4 ^ c.sum := by
  rw [← every_line, List.length_map]
  exact line_length _ _ _
theorem mem_every {c : List Nat} {E : List En} (hc : c.length = 4) {w : List Nat} : w ∈ every c E ↔ Path c E zero4 w := by
  rw [every_rem]
  exact mem_allW (Le.zero hc) rfl
/-! ### two threads without entries -/
def upto (f : Nat → Nat) : Nat → Nat
  | 0 => f 0
  | b + 1 => f (b + 1) + upto f b
def binom : Nat → Nat → Nat
  | 0 => fun _ => 1
  | a + 1 => upto (binom a)
theorem binom_zero (b : Nat) : binom 0 b = 1 := rfl
theorem binom_zero_right : ∀ a : Nat, binom a 0 = 1
  | 0 => rfl
  | a + 1 => binom_zero_right a
theorem binom_succ (a b : Nat) : binom (a + 1) (b + 1) = binom a (b + 1) + binom (a + 1) b := rfl
theorem binom_step : ∀ (n a b : Nat), a + b = n → (b + 1) * binom a (b + 1) = (a + b + 1) * binom a b
  | _, 0, b, _ => by rw [binom_zero, binom_zero]; omega
  | 0, a + 1, b, h => by omega
  | n + 1, a + 1, 0, h => by
    have ih := binom_step n a 0 (by omega)
    show (0 + 1) * (binom a 1 + binom (a + 1) 0) = _
    rw [binom_zero_right] at ih ⊢
    have z : binom a 1 = a + 1 := by simpa using ih
    rw [z]
    omega
  | n + 1, a + 1, b + 1, h => by
    have i1 := binom_step n a (b + 1) (by omega)
    have i2 := binom_step n (a + 1) b (by omega)
    show (b + 1 + 1) * (binom a (b + 1 + 1) + binom (a + 1) (b + 1)) = (a + 1 + (b + 1) + 1) * binom (a + 1) (b + 1)
    have e : binom (a + 1) (b + 1) = binom a (b + 1) + binom (a + 1) b := rfl
    rw [Nat.mul_add, i1]
    -- (a+b+2) x + (b+2)(x+y) = (a+b+3)(x+y), given (b+1)(x+y) = (a+b+2) y
    generalize binom a (b + 1) = x at *
    generalize binom (a + 1) b = y at *
    rw [e] at i2 ⊢
    have k1 : (b + 1) * (x + y) = (b + 1) * x + (b + 1) * y := Nat.mul_add _ _ _
    rw [k1] at i2
    have e1 : (a + 1 + b + 1) * y = (a + 1) * y + (b + 1) * y := by rw [← Nat.add_mul]; congr 1
    have i3 : (b + 1) * x = (a + 1) * y := by omega
    have e2 : (a + (b + 1) + 1) * x = (a + 1) * x + (b + 1) * x := by rw [← Nat.add_mul]; congr 1; omega
    have e5 : (b + 1 + 1) * (x + y) = (b + 1) * (x + y) + (x + y) := Nat.succ_mul _ _
    have e4 : (a + 1 + (b + 1) + 1) * (x + y) = (a + 1) * x + (a + 1) * y + ((b + 1) * x + (b + 1) * y) + (x + y) := by
      rw [Nat.succ_mul, Nat.add_mul, Nat.mul_add, Nat.mul_add]
    rw [e2, e5, k1, e4]
    omega
theorem binom_pos : ∀ (a b : Nat), 0 < binom a b
  | _, 0 => by rw [binom_zero_right]; exact Nat.one_pos
  | 0, _ + 1 => Nat.one_pos
  | a + 1, b + 1 => by
    have := binom_pos a (b + 1)
    show 0 < binom a (b + 1) + binom (a + 1) b
    omega
theorem binom_div (a k : Nat) : binom a k * (a + (k + 1)) / (k + 1) = binom a (k + 1) := by
  have h := binom_step (a + k) a k rfl
  rw [show binom a k * (a + (k + 1)) = (k + 1) * binom a (k + 1) by rw [h, Nat.mul_comm]; rfl]
  exact Nat.mul_div_cancel_left _ (Nat.succ_pos k)
theorem binom_le : ∀ (n a b : Nat), a + b = n → binom a b ≤ 2 ^ n
  | _, a, 0, _ => by rw [binom_zero_right]; exact Nat.one_le_two_pow
  | _, 0, b + 1, _ => by rw [binom_zero]; exact Nat.one_le_two_pow
  | 0, a + 1, b + 1, h => by omega
  | n + 1, a + 1, b + 1, h => by
    have i1 := binom_le n a (b + 1) (by omega)
    have i2 := binom_le n (a + 1) b (by omega)
    show binom a (b + 1) + binom (a + 1) b ≤ _
    rw [Nat.pow_succ]
    omega
/-- counts of two threads -/
def two (i j m k : Nat) : List Nat := (List.range 4).map fun t => if t = i then m else if t = j then k else 0
theorem two_at {i j m k t : Nat} (ht : t < 4) : at0 (two i j m k) t = if t = i then m else if t = j then k else 0 := by
  unfold at0 two
  rw [List.getD_eq_getElem?_getD, List.getElem?_map, List.getElem?_range ht]
  rfl
theorem two_length (i j m k : Nat) : (two i j m k).length = 4 := by simp [two]
theorem lets_nil {c d : List Nat} {t : Nat} : t ∈ lets c [] d ↔ t < 4 ∧ at0 d t < at0 c t := by
  rw [mem_lets]
  exact ⟨fun h => ⟨h.1, h.2.1⟩, fun h => ⟨h.1, h.2, fun e he => by cases he⟩⟩
theorem sum_map_two {f : Nat → Nat} {l : List Nat} {i j : Nat} (hl : l.Nodup) (hij : i ≠ j) (hi : i ∈ l) (hj : j ∈ l) (ho : ∀ t ∈ l, t = i ∨ t = j) : (l.map f).sum = f i + f j := by
  match l, hl, hi, hj, ho with
  | [], _, hi, _, _ => cases hi
  | [a], _, hi, hj, _ =>
    simp at hi hj; exact absurd (hi.trans hj.symm) hij
  | [a, b], hl, hi, hj, _ =>
    simp at hi hj ⊢
    rcases hi with rfl | rfl <;> rcases hj with rfl | rfl
    · exact absurd rfl hij
    · rfl
    · omega
    · exact absurd rfl hij
  | a :: b :: e :: r, hl, hi, hj, ho =>
    exfalso
    have ha := ho a (by simp); have hb := ho b (by simp); have he := ho e (by simp)
    simp only [List.nodup_cons, List.mem_cons, not_or] at hl
    omega
theorem sum_map_one {f : Nat → Nat} {l : List Nat} {i : Nat} (hl : l.Nodup) (hi : i ∈ l) (ho : ∀ t ∈ l, t = i) : (l.map f).sum = f i := by
  match l, hl, hi, ho with
  | [], _, hi, _ => cases hi
  | [a], _, hi, _ => simp at hi; subst hi; simp
  | a :: b :: r, hl, hi, ho =>
    exfalso
    have ha := ho a (by simp); have hb := ho b (by simp)
    simp only [List.nodup_cons, List.mem_cons, not_or] at hl
    omega
theorem lets_nodup (c : List Nat) (E : List En) (d : List Nat) : (lets c E d).Nodup := List.Nodup.sublist List.filter_sublist List.nodup_range
theorem two_zero {i j m k : Nat} (hij : i ≠ j) {d : List Nat} (hd : Le d (two i j m k)) (hi : i < 4) (hj : j < 4) : ∀ t, t < 4 → t ≠ i → t ≠ j → at0 d t = 0 ∧ at0 (two i j m k) t = 0 := fun t ht h1 h2 => by
  have q := hd.2.2 t ht
  rw [two_at ht, if_neg h1, if_neg h2] at q
  rw [two_at ht, if_neg h1, if_neg h2]
  exact ⟨by omega, rfl⟩
theorem W_two {i j m k : Nat} (hij : i ≠ j) (hi : i < 4) (hj : j < 4) : ∀ (n : Nat) (d : List Nat), Le d (two i j m k) → (m - at0 d i) + (k - at0 d j) = n → W (two i j m k) [] d = binom (m - at0 d i) (k - at0 d j)
  | n, d, hd, hn => by
    have ci : at0 (two i j m k) i = m := by rw [two_at hi, if_pos rfl]
    have cj : at0 (two i j m k) j = k := by rw [two_at hj, if_neg (fun e => hij e.symm), if_pos rfl]
    have di : at0 d i ≤ m := by have := hd.2.2 i hi; rw [ci] at this; exact this
    have dj : at0 d j ≤ k := by have := hd.2.2 j hj; rw [cj] at this; exact this
    have only : ∀ t ∈ lets (two i j m k) [] d, t = i ∨ t = j := fun t ht => by
      obtain ⟨t4, tl⟩ := lets_nil.mp ht
      by_cases h1 : t = i
      · exact .inl h1
      · by_cases h2 : t = j
        · exact .inr h2
        · obtain ⟨q1, q2⟩ := two_zero hij hd hi hj t t4 h1 h2
          omega
    by_cases he : d = two i j m k
    · subst he
      rw [W_self, ci, cj]
      simp [binom_zero]
    · rw [W_step hd he]
      by_cases hmi : at0 d i < m
      · have mi : i ∈ lets (two i j m k) [] d := lets_nil.mpr ⟨hi, by rw [ci]; exact hmi⟩
        have bi := hd.bump hi (by rw [ci]; exact hmi)
        have ei : W (two i j m k) [] (bump d i) = binom (m - at0 d i - 1) (k - at0 d j) := by
          have e1 : at0 (bump d i) i = at0 d i + 1 := by rw [at0_bump hd.1 hi, if_pos rfl]
          have e2 : at0 (bump d i) j = at0 d j := by rw [at0_bump hd.1 hi, if_neg fun e => hij e.symm]
          have z := W_two hij hi hj (n - 1) (bump d i) bi (by rw [e1, e2]; omega)
          rw [e1, e2] at z
          rw [z]
          congr 1
        by_cases hkj : at0 d j < k
        · have mj : j ∈ lets (two i j m k) [] d := lets_nil.mpr ⟨hj, by rw [cj]; exact hkj⟩
          have bj := hd.bump hj (by rw [cj]; exact hkj)
          have ej : W (two i j m k) [] (bump d j) = binom (m - at0 d i) (k - at0 d j - 1) := by
            have e1 : at0 (bump d j) j = at0 d j + 1 := by rw [at0_bump hd.1 hj, if_pos rfl]
            have e2 : at0 (bump d j) i = at0 d i := by rw [at0_bump hd.1 hj, if_neg hij]
            have z := W_two hij hi hj (n - 1) (bump d j) bj (by rw [e1, e2]; omega)
            rw [e1, e2] at z
            rw [z]
            congr 1
          rw [sum_map_two (lets_nodup _ _ _) hij mi mj only, ei, ej]
          obtain ⟨a, ha⟩ : ∃ a, m - at0 d i = a + 1 := ⟨m - at0 d i - 1, by omega⟩
          obtain ⟨b, hb⟩ : ∃ b, k - at0 d j = b + 1 := ⟨k - at0 d j - 1, by omega⟩
          rw [ha, hb]
          rfl
        · have o1 : ∀ t ∈ lets (two i j m k) [] d, t = i := fun t ht => by
            rcases only t ht with e | e
            · exact e
            · subst e
              have := (lets_nil.mp ht).2
              rw [cj] at this
              omega
          rw [sum_map_one (lets_nodup _ _ _) mi o1, ei]
          have z : k - at0 d j = 0 := by omega
          rw [z, binom_zero_right, binom_zero_right]
      · have hkj : at0 d j < k := by
          refine Nat.lt_of_not_le fun hk => he (ext4 hd.1 (two_length _ _ _ _) fun t ht => ?_)
          by_cases h1 : t = i
          · subst h1; rw [ci]; omega
          · by_cases h2 : t = j
            · subst h2; rw [cj]; omega
            · obtain ⟨q1, q2⟩ := two_zero hij hd hi hj t ht h1 h2
              rw [q1, q2]
        have mj : j ∈ lets (two i j m k) [] d := lets_nil.mpr ⟨hj, by rw [cj]; exact hkj⟩
        have bj := hd.bump hj (by rw [cj]; exact hkj)
        have ej : W (two i j m k) [] (bump d j) = binom (m - at0 d i) (k - at0 d j - 1) := by
          have e1 : at0 (bump d j) j = at0 d j + 1 := by rw [at0_bump hd.1 hj, if_pos rfl]
          have e2 : at0 (bump d j) i = at0 d i := by rw [at0_bump hd.1 hj, if_neg hij]
          have z := W_two hij hi hj (n - 1) (bump d j) bj (by rw [e1, e2]; omega)
          rw [e1, e2] at z
          rw [z]
          congr 1
        have o1 : ∀ t ∈ lets (two i j m k) [] d, t = j := fun t ht => by
          rcases only t ht with e | e
          · subst e
            have := (lets_nil.mp ht).2
            rw [ci] at this
            omega
          · exact e
        rw [sum_map_one (lets_nodup _ _ _) mj o1, ej]
        have z : m - at0 d i = 0 := by omega
        rw [z, binom_zero, binom_zero]
  termination_by n _ _ _ => n
  decreasing_by all_goals omega
theorem W_two_zero {i j m k : Nat} (hij : i ≠ j) (hi : i < 4) (hj : j < 4) : W (two i j m k) [] zero4 = binom m k := by
  have z := W_two (m := m) (k := k) hij hi hj (m + k) zero4 (Le.zero (two_length _ _ _ _)) (by rw [at0_zero, at0_zero]; omega)
  rw [at0_zero, at0_zero] at z
  exact z
/-- without entries every counts are kept by some weaving -/
theorem good_nil {c : List Nat} (hc : c.length = 4) : Good c [] := by
  refine ⟨hc, ?_⟩
  have h : ∀ (n : Nat) (d : List Nat), Le d c → rem c d = n → ∃ w, Path c [] d w := by
    intro n
    induction n with
    | zero => exact fun d hd hn => ⟨[], rem_zero hd hn⟩
    | succ n ih =>
      intro d hd hn
      have hne : d ≠ c := fun e => by subst e; rw [rem_self] at hn; cases hn
      obtain ⟨t, ht, hl⟩ : ∃ t, t < 4 ∧ at0 d t < at0 c t := by
        refine Classical.byContradiction fun q => hne (ext4 hd.1 hc fun t ht => Nat.le_antisymm (hd.2.2 t ht) (Nat.le_of_not_lt fun z => q ⟨t, ht, z⟩))
      have hm : t ∈ lets c [] d := lets_nil.mpr ⟨ht, hl⟩
      obtain ⟨w, hw⟩ := ih (bump d t) (hd.lets hm) (rem_bump hd hm hn)
      exact ⟨t :: w, hm, hw⟩
  exact h _ zero4 (Le.zero hc) rfl
end K81M
set_option maxHeartbeats 2000000
/-! The base of the walk: the text by places, the frame, what stands in the heap, short rules. -/
namespace K81
open PySem PySem.Spec PyProof.Rows L2 LamX K81M
abbrev Tok := PySem.Tok
def top (i : Nat) : Stmt := PySem.Challenge.pw_firstwrong_k81_whole_counting_weavings.main.body.getD i (.Pass ⟨0, 0, 0, 0⟩)
/-- what the module's names are: built-ins that stand, numbers -/
structure Txt (mg : Str → Option Value) : Prop where
  f_len : mg "len" = none
  f_sum : mg "sum" = none
  f_all : mg "all" = none
  f_abs : mg "abs" = none
  f_repr : mg "repr" = none
  f_isinstance : mg "isinstance" = none
  f_int : mg "int" = none
  f_bool : mg "bool" = none
  f_tuple : mg "tuple" = none
  f_list : mg "list" = none
  f_sorted : mg "sorted" = none
  f_dict : mg "dict" = none
  f_range : mg "range" = none
  f_enumerate : mg "enumerate" = none
  f_zip : mg "zip" = none
  f_super : mg "super" = none
  c_MOST_THREADS : ∃ t, mg "MOST_THREADS" = some (.int 4 t)
  c_MOST_LEDGER_STEPS : ∃ t, mg "MOST_LEDGER_STEPS" = some (.int 2000 t)
  c_MOST_STANDS : ∃ t, mg "MOST_STANDS" = some (.int 20000 t)
/-! ### the frame: all stands but what is in S and the tables of code objects; the tables stay tables -/
structure Fr (T : List (Addr × Str)) (S : List Addr) (H H' : Hp) : Prop where
  ext : ∀ b o, H b = some o → b ∉ S → (∀ ps, o ≠ .tbl ps) → H' b = some o
  tabs : Tabs T H → Tabs T H'
  old : ∀ b, H b ≠ none → H' b ≠ none
section
variable {T : List (Addr × Str)} {S S' : List Addr} {H H' H1 H2 : Hp} {a p : Addr} {o : HO}
theorem Fr.refl : Fr T S H H := ⟨fun _ _ h _ _ => h, id, fun _ h => h⟩
theorem Fr.trans (a : Fr T S H H1) (b : Fr T S H1 H2) : Fr T S H H2 := ⟨fun c o h n1 n2 => b.ext c o (a.ext c o h n1 n2) n1 n2, fun h => b.tabs (a.tabs h), fun c h => b.old c (a.old c h)⟩
theorem Fr.new (h : H p = none) : Fr T S H (upd H p o) where
  ext := fun b u e _ _ => by rw [upd_ne (ne_of_none e h)]; exact e
  tabs := fun t => t.ext fun b u e => by rw [upd_ne (ne_of_none e h)]; exact e
  old := fun b e => by
    by_cases z : b = p
    · rw [z, upd_same]; simp
    · rw [upd_ne z]; exact e
theorem Fr.mono (f : Fr T [] H H') : Fr T S H H' := ⟨fun b o e _ n => f.ext b o e (by simp) n, f.tabs, f.old⟩
theorem Fr.free (f : Fr T S H H') (h : H' p = none) : H p = none := by
  cases e : H p with
  | none => rfl
  | some u => exact absurd h (f.old p (by rw [e]; simp))
theorem Fr.upd_new (f : Fr T S H H') (h : H' p = none) : Fr T S H (upd H' p o) := f.trans (.new h)
/-- an object that is not of the frame is written -/
theorem Fr.write (f : Fr T S H H') (hn : H p = none ∨ p ∈ S) (he : H' p ≠ none) (hm : ∀ xs, H' p ≠ some (.tup xs)) (ht : ∀ ps, H' p ≠ some (.tbl ps)) (hx : ∀ q, H' p ≠ some (CodeO p q)) : Fr T S H (upd H' p o) where
  ext := fun b u e n1 n2 => by
    have hb : b ≠ p := by
      rintro rfl
      rcases hn with z | z
      · rw [z] at e; cases e
      · exact n1 z
    rw [upd_ne hb]
    exact f.ext b u e n1 n2
  tabs := fun t => by
    intro q hq
    obtain ⟨ps, h1, h2, h3⟩ := f.tabs t q hq
    refine ⟨ps, ?_, h2, fun pos cv hc => ?_⟩
    · rw [upd_ne (fun z => by rw [z] at h1; exact ht _ h1)]; exact h1
    · obtain ⟨c, e1, e2⟩ := h3 pos cv hc
      refine ⟨c, e1, ?_⟩
      rw [upd_ne (fun z => by rw [z] at e2; exact hx _ e2)]
      exact e2
  old := fun b e => by
    by_cases z : b = p
    · rw [z, upd_same]; simp
    · rw [upd_ne z]; exact f.old b e
theorem Fr.tup {xs : List V} (f : Fr T S H H') (h : H a = some (.tup xs)) (n : a ∉ S) : H' a = some (.tup xs) := f.ext a _ h n fun _ z => by cases z
theorem Fr.tup0 {xs : List V} (f : Fr T [] H H') (h : H a = some (.tup xs)) : H' a = some (.tup xs) := f.tup h (by simp)
theorem Fr.lst {xs : List V} (f : Fr T S H H') (h : H a = some (.lst xs)) (n : a ∉ S) : H' a = some (.lst xs) := f.ext a _ h n fun _ z => by cases z
theorem Fr.lst0 {xs : List V} (f : Fr T [] H H') (h : H a = some (.lst xs)) : H' a = some (.lst xs) := f.lst h (by simp)
end
theorem Paired.at {α β : Type} {F : α → β → Prop} : ∀ {l : List α} {m : List β} {i : Nat} {x : α}, Paired F l m → l[i]? = some x → ∃ y, m[i]? = some y ∧ F x y
  | _, _, _, _, .nil, e => by simp at e
  | _, _, 0, _, .cons r _, e => by simp at e; subst e; exact ⟨_, rfl, r⟩
  | _, _, i + 1, x, .cons _ t, e => by
    obtain ⟨u, h1, h2⟩ := Paired.at (i := i) (x := x) t (by simpa using e)
    exact ⟨u, by simpa using h1, h2⟩
theorem Paired.at2 {α β : Type} {F : α → β → Prop} : ∀ {l : List α} {m : List β} {i : Nat} {y : β}, Paired F l m → m[i]? = some y → ∃ x, l[i]? = some x ∧ F x y
  | _, _, _, _, .nil, e => by simp at e
  | _, _, 0, _, .cons r _, e => by simp at e; subst e; exact ⟨_, rfl, r⟩
  | _, _, i + 1, x, .cons _ t, e => by
    obtain ⟨u, h1, h2⟩ := Paired.at2 (i := i) (y := x) t (by simpa using e)
    exact ⟨u, by simpa using h1, h2⟩
/-! ### values -/
abbrev nI (n : Nat) : V := .int (n : Int)
abbrev nIs (ns : List Nat) : List V := ns.map nI
/-- a tuple whose object has no dict: frozen -/
def FzT (H : Hp) (a : Addr) (xs : List V) : Prop := ∃ o : Obj, o.dict = none ∧ H a = some (.frz o (.tup xs))
theorem FzT.sq {K : PySem.W.Frag} {H : Hp} {a : Addr} {xs : List V} (h : FzT H a xs) : SqT K H a xs := by
  obtain ⟨o, _, h⟩ := h
  exact .inl (.inr ⟨o, h⟩)
theorem Fr.fz {T : List (Addr × Str)} {S : List Addr} {H H' : Hp} {a : Addr} {xs : List V} (f : Fr T S H H') (h : FzT H a xs) (n : a ∉ S) : FzT H' a xs := by
  obtain ⟨o, d, h⟩ := h
  exact ⟨o, d, f.ext a _ h n fun _ z => by cases z⟩
theorem Fr.fz0 {T : List (Addr × Str)} {H H' : Hp} {a : Addr} {xs : List V} (f : Fr T [] H H') (h : FzT H a xs) : FzT H' a xs := f.fz h (by simp)
/-- the simple kinds -/
inductive TyS (H : Hp) : V → String → Prop where
  | non : TyS H .non "NoneType"
  | bl (b : Bool) : TyS H (.bl b) "bool"
  | int (i : Int) : TyS H (.int i) "int"
  | str (x : Str) : TyS H (.str x) "str"
  | lst {a : Addr} {xs : List V} (e : H a = some (.lst xs)) : TyS H (.ref a) "list"
  | tup {a : Addr} {xs : List V} (e : H a = some (.tup xs)) : TyS H (.ref a) "tuple"
  | fz {a : Addr} {xs : List V} (e : FzT H a xs) : TyS H (.ref a) "tuple"
theorem TyS.x {K : PySem.W.Frag} {H : Hp} {x : V} {t : String} (h : TyS H x t) : TyX K H x (.type t) := by
  cases h with
  | non => exact .base .non
  | bl b => exact .base (.bl b)
  | int i => exact .base (.int i)
  | str x => exact .base (.str x)
  | lst e => exact .base (.lst e)
  | tup e => exact .base (.tup e)
  | fz e =>
    obtain ⟨o, _, e⟩ := e
    exact .fTuple e
/-- isinstance(x, U), U a built-in class -/
def rIs : List V → Hp → VK → Prop := fun xs H Q => ∃ (x : V) (t U : String) (b : Bool), xs = [x, .ty U] ∧ TyS H x t ∧ kitB t U = some b ∧ Q (.bl b) H
section
variable {X : Cx}
theorem ck_isi : CallR X (.builtin "isinstance") rIs := by
  intro pins s σ H xs us Q I r h
  obtain ⟨x, t, U, b, e, ty, k, q⟩ := h
  exact call_isi pins s σ H xs us Q I r ⟨x, .ty U, .type t, .type U, b, e, .ty U, ty.x, kit_ty k, q⟩
/-- isinstance(x, (list, tuple)) -/
def rIsLT : List V → Hp → VK → Prop := fun xs H Q => ∃ (x : V) (t : String) (p : Addr) (b : Bool), xs = [x, .ref p] ∧ H p = some (.tup [.ty "list", .ty "tuple"]) ∧ TyS H x t ∧ (b = (t == "list" || t == "tuple")) ∧ Q (.bl b) H
theorem ck_isLT : CallR X (.builtin "isinstance") rIsLT := by
  intro pins s σ H xs us Q I r h
  obtain ⟨x, t, p, b, e, hp, ty, k, q⟩ := h
  refine call_isiT pins s σ H xs us Q I r ⟨x, p, _, .type t, [.type "list", .type "tuple"], b, e, hp, .cons (.ty _) (.cons (.ty _) .nil), ty.x, ?_, q⟩
  subst k
  have d1 : kitB "NoneType" "list" = some false := by decide +kernel
  have d2 : kitB "NoneType" "tuple" = some false := by decide +kernel
  have d3 : kitB "bool" "list" = some false := by decide +kernel
  have d4 : kitB "bool" "tuple" = some false := by decide +kernel
  have d5 : kitB "int" "list" = some false := by decide +kernel
  have d6 : kitB "int" "tuple" = some false := by decide +kernel
  have d7 : kitB "str" "list" = some false := by decide +kernel
  have d8 : kitB "str" "tuple" = some false := by decide +kernel
  have d9 : kitB "list" "list" = some true := by decide +kernel
  have d10 : kitB "tuple" "list" = some false := by decide +kernel
  have d11 : kitB "tuple" "tuple" = some true := by decide +kernel
  cases ty with
  | non => exact kitAny_cons (kit_ty d1) (fun _ => kitAny_cons (kit_ty d2) (fun _ => kitAny_nil) (fun z => by cases z)) (fun z => by cases z)
  | bl _ => exact kitAny_cons (kit_ty d3) (fun _ => kitAny_cons (kit_ty d4) (fun _ => kitAny_nil) (fun z => by cases z)) (fun z => by cases z)
  | int _ => exact kitAny_cons (kit_ty d5) (fun _ => kitAny_cons (kit_ty d6) (fun _ => kitAny_nil) (fun z => by cases z)) (fun z => by cases z)
  | str _ => exact kitAny_cons (kit_ty d7) (fun _ => kitAny_cons (kit_ty d8) (fun _ => kitAny_nil) (fun z => by cases z)) (fun z => by cases z)
  | lst _ => exact kitAny_cons (kit_ty d9) (fun z => by cases z) (fun _ => by decide)
  | fz _ => exact kitAny_cons (kit_ty d10) (fun _ => kitAny_cons (kit_ty d11) (fun z => by cases z) (fun _ => by decide)) (fun z => by cases z)
  | tup _ => exact kitAny_cons (kit_ty d10) (fun _ => kitAny_cons (kit_ty d11) (fun z => by cases z) (fun _ => by decide)) (fun z => by cases z)
/-- a number of the module -/
theorem gI {x : Str} {i : Int} {pos : Pos} (hg : Gl X x) (h : ∃ t, X.mg x = some (.int i t)) (hd : (x == ("__debug__" : Str)) = false := by decide) : PE X (.Name x pos) (tC (.int i)) := by
  obtain ⟨t, e⟩ := h
  exact pe_glob hg e ⟨t, rfl⟩ hd
end
/-! ### a def of the module, bound to its promise -/
structure Cl (P : Program) (w : World) (K : PySem.W.Frag) (mg : Str → Option Value) (base : Heap) (CX : CXT) (k : Nat) (x : Str) (sp : Sp) : Prop where
  ex : ∃ (f : Addr) (fd : FuncData) (ps : List Str), mg x = some (.ref f) ∧ PySem.W.keepIn K (.ref f) = true ∧ Binds K fd ps [] ∧ FnOk P w K mg base CX k f fd ps sp
def tCl (sp : Sp) (E : XK) (t : TA) : TE := fun σ H Q => t σ H fun vs H1 => sp vs H1 Q E
section
variable {X : Cx} {k j : Nat} {x : Str} {sp : Sp} {e : Expr} {es : List Expr} {t : TA} {p pos : Pos}
theorem tCl_of {E : XK} (h : PE X (.Call (.Name x p) (e :: es) [] pos) (tCall sp [] E t)) : PE X (.Call (.Name x p) (e :: es) [] pos) (tCl sp E t) :=
  ⟨fun pins s σ H Q I hq => h.run pins s σ H Q I (by
    have e : (fun vs H1 => sp (vs ++ []) H1 Q E) = (fun vs H1 => sp vs H1 Q E) := by funext vs H1; rw [List.append_nil]
    show t σ H (fun vs H1 => sp (vs ++ []) H1 Q E)
    rw [e]
    exact hq)⟩
theorem cl0 (c : Cl X.prog X.w X.K X.mg X.base CX0 k x sp) (hr : Room j X.A) (hk : k ≤ j) (hg : Gl X x) (ha : PA X (e :: es) t) (hdb : (x == ("__debug__" : Str)) = false := by decide)
    (he : starEach (e :: es) X.env = (false, eval e X.env) :: starEach es X.env := by rfl) (hpl : (backTo pos (starEach es X.env)).any (·.1) = false := by rfl) : PE X (.Call (.Name x p) (e :: es) [] pos) (tCl sp E0 t) := by
  obtain ⟨f, fd, ps, h1, h2, h3, h4⟩ := c.ex
  exact tCl_of (pe_call h4 (hr.mono hk) hg h1 h2 h3 .nil pass0 ha hdb he hpl)
/-- a def that may raise, called where it does not -/
theorem clN (c : Cl X.prog X.w X.K X.mg X.base (L2.CX X.prog X.w) k x sp) (hr : Room j X.A) (hk : k ≤ j) (hg : Gl X x) (ha : PA X (e :: es) t) (hdb : (x == ("__debug__" : Str)) = false := by decide)
    (he : starEach (e :: es) X.env = (false, eval e X.env) :: starEach es X.env := by rfl) (hpl : (backTo pos (starEach es X.env)).any (·.1) = false := by rfl) : PE X (.Call (.Name x p) (e :: es) [] pos) (tCl sp E0 t) := by
  obtain ⟨f, fd, ps, h1, h2, h3, h4⟩ := c.ex
  exact tCl_of (pe_call h4 (hr.mono hk) hg h1 h2 h3 .nil passL ha hdb he hpl)
/-- a def that may raise -/
theorem clX {E : XK} (c : Cl X.prog X.w X.K X.mg X.base (L2.CX X.prog X.w) k x sp) (hr : Room j X.A) (hk : k ≤ j) (hg : Gl X x) (hx : Passes (L2.CX X.prog X.w) X E) (ha : PA X (e :: es) t) (hdb : (x == ("__debug__" : Str)) = false := by decide)
    (he : starEach (e :: es) X.env = (false, eval e X.env) :: starEach es X.env := by rfl) (hpl : (backTo pos (starEach es X.env)).any (·.1) = false := by rfl) : PE X (.Call (.Name x p) (e :: es) [] pos) (tCl sp E t) := by
  obtain ⟨f, fd, ps, h1, h2, h3, h4⟩ := c.ex
  exact tCl_of (pe_call h4 (hr.mono hk) hg h1 h2 h3 .nil hx ha hdb he hpl)
end
end K81
set_option maxHeartbeats 2000000
/-! Rules that the layer does not have: for this program's constructs. -/
namespace K81
open PySem PySem.Spec PyProof.Rows L2 LamX K81M StX RZ
section
variable {X : Cx}
def tOr (t u : TE) : TE := fun σ H Q => t σ H Q ∨ u σ H Q
theorem PE_or {e : Expr} {t u : TE} (h : PE X e t) (h' : PE X e u) : PE X e (tOr t u) := ⟨fun pins s σ H Q I q => by
  rcases q with q | q
  · exact h.run pins s σ H Q I q
  · exact h'.run pins s σ H Q I q⟩
theorem PI_or {tg e : Expr} {t u : TI} (h : PI X tg e t) (h' : PI X tg e u) : PI X tg e (fun σ H Q => t σ H Q ∨ u σ H Q) := ⟨fun pins s σ H Q I q => by
  rcases q with q | q
  · exact h.run pins s σ H Q I q
  · exact h'.run pins s σ H Q I q⟩
theorem PS_nox {st : Stmt} {t : TS} (h : PS X.nox st t) : PS X st t := ⟨fun pins s σ H D I hw => wpAny_mono (h.run pins s σ H D (I.wish _) hw) (fun _ _ q => SP.unwish q) fun _ _ z => z.elim⟩
/-! ### xs[i] op= e, x *= e -/
def rGetL (K : PySem.W.Frag) : V → V → Hp → VK → Prop := fun o i H Q => ∃ p xs k v, o = .ref p ∧ i = .int k ∧ SqL K H p xs ∧ 0 ≤ k ∧ xs[k.toNat]? = some v ∧ Q v H
theorem get_list : PGet X (rGetL X.K) := by
  intro pins s σ H o i ov iv Q I ro ri h
  obtain ⟨p, xs, k, z, rfl, rfl, hq, h0, he, q⟩ := h
  cases ro
  obtain ⟨t, rfl⟩ := ri
  obtain ⟨its, r, pl, hz⟩ := I.list hq
  obtain ⟨w, ew, rw'⟩ := r.get he
  have hl := r.length
  have h1 := (List.getElem?_eq_some_iff.mp he).1
  have hn := line63
  exact wpAny_getItem_list pl.isList (k := k) h0 (by omega) (by simpa using ew) ⟨z, H, I, rw', q⟩
theorem ip_mulI : PIp X .Mult (fun x y H Q => ∃ i j : Int, x = .int i ∧ y = .int j ∧ (-(2 ^ 64) < j ∧ j < 2 ^ 64) ∧ Q (.int (i * j)) H) := by
  intro pins s σ H x y v u Q I rx ry h
  obtain ⟨i, j, ex, ey, hj, q⟩ := h
  exact iop_mul pins s σ H x y v u Q I rx ry ⟨i, j, ex, ey, .inr hj, q⟩
/-! ### < of data -/
def rLtD (K : PySem.W.Frag) : R2 := fun x y H Q => ∃ d e, Dp K H x d ∧ Dp K H y e ∧ PySem.W.alike d e = true ∧ d ≠ .none ∧ d.depth ≤ 60 ∧ Q (.bl (PySem.W.dataLt d e)) H
theorem op_ltD (hu : X.A.units + 64 < cLine) : OpR X (compareOp .Lt) (rLtD X.K) := by
  intro pins s σ H x y v u Q I rx ry h
  obtain ⟨d, e, hd, he, al, hn, hz, q⟩ := h
  obtain ⟨as, r1⟩ := Dp.reads I d x v hd rx
  obtain ⟨bs, r2⟩ := Dp.reads I e y u he ry
  exact PySem.W.rcLt_alike d e X.A s v u as bs r1 r2 al hn (by omega) X.prog X.w X.xe _ ⟨.bl _, H, I, rfl, q⟩
/-! ### sum(t), t.count(k) of a tuple of numbers -/
theorem sum_rawT {prog : Program} {w : World} {A : Around} {E : Value → Shared → Prop} {s : Shared} {l : Addr} {its : List Value} {ns : List Int} {Q : Value → Shared → Prop} (hh : A.handled = none) (hl : s.heap.IsTuple l its.toArray) (hi : IntsAre its ns)
    (h : ∀ h' tk t', (∀ b o, s.heap.get? b = some o → h'.get? b = some o) → Q (.int ns.sum t') { s with heap := h', toks := tk }) : wpAny (model prog w) A (call (.builtin "sum") [.ref l]) Q E s := by
  obtain ⟨xs, e⟩ := hi.allInts.items
  have hn : numsOf (intItems xs).toList = ns := by rw [← e]; exact hi.numsOf
  rw [nums_intItems] at hn
  rw [e] at hl
  have hlt : l < s.heap.objs.size := by
    obtain ⟨_, q, _⟩ := hl
    exact Heap.lt_size q
  refine call_sum_walkG (wpAny_pyIter_tuple hl ⟨s.heap.objs.size, [s.heap.objs.size, l], [s.heap.objs.size], (intItems xs).size, _, _, numAt xs, rfl, Walks.tuple (A := A.in1) hh _ l (Nat.ne_of_lt hlt) (intItems xs), ⟨⟨_, Heap.get?_push_size _ rfl, rfl, rfl⟩, hl.push _⟩, fun b hb => ?_, (fun _ _ => intItems_at), fun h' tk t' hk => ?_⟩)
  · show b < (s.heap.push _).objs.size
    rw [Heap.size_push]
    simp only [List.mem_cons, List.not_mem_nil, or_false] at hb
    rcases hb with rfl | rfl
    · exact Nat.lt_succ_self _
    · exact Nat.lt_succ_of_lt hlt
  · have q := h h' tk t' fun b o hb => hk b o (by simp only [List.mem_cons, List.not_mem_nil, or_false]; exact Nat.ne_of_lt (Heap.lt_size hb)) (Heap.get?_push_of_some _ hb)
    have e2 : (intItems xs).size = xs.size := by simp [intItems]
    rw [e2, preSum_eq, List.take_of_length_le (by simp), hn]
    exact q
def rSumT (K : PySem.W.Frag) : List V → Hp → VK → Prop := fun vs H Q => ∃ (a : Addr) (ns : List Int), vs = [V.ref a] ∧ SqT K H a (ns.map V.int) ∧ Q (.int ns.sum) H
theorem cr_sumT (hc : X.calm = true) : CallR X (.builtin "sum") (rSumT X.K) := by
  intro pins s σ H vs us Q I r h
  obtain ⟨a, ns, rfl, hs, q⟩ := h
  obtain ⟨its, rv, ⟨o, h1, h2, n, h3⟩, _⟩ := I.tuple hs
  rw [Vals.ref1 r]
  exact sum_rawT (I.ok.hd hc) ⟨o, h1, h2, n, h3⟩ rv.ints fun h' tk t' hk => ⟨.int _, H, I.kept hk, ⟨_, rfl⟩, q⟩
/-- t.count(k), t a frozen tuple of numbers -/
def tCntT (to : TE) (te : TA) : TE := fun σ H Q => to σ H fun x H1 => (∃ (a : Addr) (ns : List Int), x = .ref a ∧ FzT H1 a (ns.map V.int) ∧ te σ H1 fun ys H2 => ∃ k : Int, ys = [.int k] ∧ FzT H2 a (ns.map V.int) ∧ Q (.int (ns.count k : Nat)) H2)
theorem pe_tcount {o e : Expr} {to : TE} {te : TA} {apos cpos : Pos} (ho : PE X o to) (ha : PA X [e] te)
    (hbase : attributeBase o "count" X.env (eval o X.env) = eval o X.env := by rfl)
    (hfew : ((backTo cpos (starEach [e] X.env)).all (fun x => !x.1) && (backToKw cpos (keywordEach [] X.env)).all (fun x => x.1.isSome)
      && decide ([e].length + ([] : List Keyword).length + (if ([] : List Keyword).isEmpty then 0 else 1) < 30)) = true := by rfl)
    (hline : (apos.endLine == cpos.line) = true := by rfl) (hs : starEach [e] X.env = (false, eval e X.env) :: starEach [] X.env := by rfl) (hplain : (backTo cpos (starEach [] X.env)).any (·.1) = false := by rfl) :
    PE X (.Call (.Attribute o "count" apos) [e] [] cpos) (tCntT to te) := by
  refine ⟨fun pins s σ H Q I h => ?_⟩
  refine wpAny_Call_method_late hbase hfew hline rfl (thn (ho.run pins s σ H _ I h) fun v s1 ⟨x, H1, I1, r1, a, ns, ex, ⟨o1, d1, f1⟩, q1⟩ => ?_)
  subst ex
  cases r1
  obtain ⟨g1, _, its1, rv1, o2, g2, g3, n1, g4⟩ := (show ObjOk X.prog X.w H1 s1.heap a (.frz o1 (.tup _)) from I1.hok a _ f1)
  have e2 : o1 = o2 := Option.some.inj (g1.symm.trans g2)
  subst e2
  refine ⟨"tuple", "tuple.count", PySem.F.plainAttrs_tuple, PySem.F.slot_tuple_count, PySem.F.type_tuple_count, ⟨o1, g1, g3⟩, fun b hb => ⟨o1, by cases hb; exact g1, d1⟩, ?_⟩
  have hA := ha.run cpos pins s1 σ H1 _ I1 q1
  rw [hs] at hA ⊢
  refine Calls.callWith_builtin (by show (false || (backTo cpos (starEach [] X.env)).any (·.1)) = false; rw [hplain] <;> rfl) (Calls.evalArgs_plain ?_)
  refine thn hA fun us s2 ⟨vs, H2, I2, r2, k, ek, ⟨o3, d3, f3⟩, q2⟩ => ?_
  subst ek
  obtain ⟨u, rfl, ru⟩ := r2.one
  obtain ⟨t, rfl⟩ := ru
  obtain ⟨g1, _, its, rv, ⟨cls, dd, data, sl⟩, g2, hc, n, hd⟩ := (show ObjOk X.prog X.w H2 s2.heap a (.frz o3 (.tup _)) from I2.hok a _ f3)
  simp only at hc hd
  subst hc hd
  have hi := ints_of_vals rv
  refine call_meets PySem.F.slot_tuple_count ⟨_, g2, rfl⟩ PySem.F.entry_tuple_count (PySem.F.args_tuple_count_2 _ _) (SeqAt.tuple_countAt a its.toArray n dd sl (.int k t) (eqk k)) ⟨g2, fun y hy => (eqk_gives hi y (by simpa using hy)).at _ _, ?_⟩
  have ec : its.toArray.toList.countP (eqk k) = ns.count k := eqk_count hi
  refine ⟨.int (ns.count k : Nat), H2, I2.tok _, ⟨s2.toks, ?_⟩, q2⟩
  show Value.int ((its.toArray.toList.countP (eqk k) : Nat) : Int) s2.toks = Value.int ((ns.count k : Nat) : Int) s2.toks
  rw [ec]
/-! ### d.setdefault(k, v), the keys tuples -/
def rSetdT : V → List V → Hp → VK → Prop := fun x xs H Q => ∃ (a : Addr) (kvs : List (List Key × V)) (k : List Key) (b : Addr) (d : V), x = .ref a ∧ xs = [.ref b, d] ∧ H a = some (.dT kvs) ∧ H b = some (.tup (k.map kV)) ∧ kvs.length < sizeLine ∧
  (∀ v, valV kvs k = some v → Q v H) ∧ (valV kvs k = none → Q d (upd H a (.dT (putK kvs k d))))
theorem mt_setdT (hu : X.A.units + 1 < cLine) : MtR X "dict.setdefault" rSetdT := by
  intro pins s σ H x xs v us Q I rx rxs h
  obtain ⟨a, kvs, k, b, d, rfl, rfl, ha, hb, hl, q1, q2⟩ := h
  cases rx
  obtain ⟨u1, u2, rfl, r1, r2⟩ := vals2 rxs
  cases r1
  obtain ⟨z, hd, xs', rel, dd⟩ := dt_of I.hok ha
  have hz : xs'.length ≤ sizeLine := by rw [← Paired.length rel]; exact z
  have r := rel.val k
  refine call_setdefault_heap (hsz := hz) (tupleKind_room_in1 hu) (key_of I.hok hb) hd dd (fun p hp => ?_) fun hn h' dd' hs => ?_
  · rw [hp] at r
    cases ev : valV kvs k with
    | none => rw [ev] at r; exact (show False from r).elim
    | some v0 =>
      rw [ev] at r
      exact ⟨v0, H, I.tok _, r, q1 v0 ev⟩
  · have e : valV kvs k = none := by
      rw [hn] at r
      cases ev : valV kvs k with
      | none => rfl
      | some v0 => rw [ev] at r; exact (show False from r).elim
    obtain ⟨o, es, ep, hq, h2, h3, h4, _, h5⟩ := dd'
    have hl2 : (putK kvs k d).length ≤ sizeLine := by have := length_putK kvs k d; omega
    refine ⟨d, upd H a (.dT (putK kvs k d)), d_write I (by rw [ha]; exact True.intro) hs ⟨o, hq⟩ ⟨hl2, hd, _, (rel.put k hb r2).keeps (fun c ys ec => (by rw [upd_ne (ne_of ec ha (fun z => nomatch z))]; exact ec)), o, es, ep, hq, h2, h3, h4, h5⟩, r2, q2 e⟩
/-! ### dict(pairs), the keys tuples -/
abbrev Row := List Key × Addr × V
def mergeT (rows : List Row) : List (List Key × V) := rows.foldl (fun acc r => putK acc r.1 r.2.2) []
def rDictT (K : PySem.W.Frag) : List V → Hp → VK → Prop := fun xs H Q => ∃ (a : Addr) (ps : List Addr) (rows : List Row), xs = [.ref a] ∧ SqL K H a (ps.map V.ref) ∧
  Paired (fun p r => H p = some (.tup [.ref r.2.1, r.2.2]) ∧ H r.2.1 = some (.tup (r.1.map kV))) ps rows ∧ ∀ p, H p = none → Q (.ref p) (upd H p (.dT (mergeT rows)))
theorem rows_of {pins : List (Addr × Obj)} {σ : L2.St} {H : Hp} {s : Shared} (I : Inv X pins σ H s) : ∀ {ps : List Addr} {rows : List Row}, Paired (fun p r => H p = some (.tup [.ref r.2.1, r.2.2]) ∧ H r.2.1 = some (.tup (r.1.map kV))) ps rows →
    ∃ xs : List (List Key × Addr × Value), Paired (fun (r : Row) (x : List Key × Addr × Value) => r.1 = x.1 ∧ r.2.1 = x.2.1 ∧ RelV r.2.2 x.2.2 ∧ H x.2.1 = some (.tup (x.1.map kV))) rows xs ∧
      ∀ (j : Nat) x, xs[j]? = some x → ∃ b, ps[j]? = some b ∧ s.heap.IsTuple b #[.ref x.2.1, x.2.2]
  | _, _, .nil => ⟨[], .nil, fun j x e => by simp at e⟩
  | _, _, .cons (a := p) (b := r) ⟨h1, h2⟩ t => by
    obtain ⟨xs, rel, hx⟩ := rows_of I t
    obtain ⟨_, its, rv, o, g1, g2, n, g3⟩ := (show ObjOk X.prog X.w H s.heap p (.tup _) from I.hok p _ h1)
    obtain ⟨u, y, ei, ru, ry⟩ := vals2 rv
    subst ei
    cases ru
    refine ⟨(r.1, r.2.1, y) :: xs, .cons ⟨rfl, rfl, ry, h2⟩ rel, fun j x e => ?_⟩
    cases j with
    | zero =>
      have e' : (r.1, r.2.1, y) = x := Option.some.inj e
      subst e'
      exact ⟨p, rfl, o, g1, g2, n, g3⟩
    | succ j =>
      obtain ⟨b, e1, e2⟩ := hx j x (by simpa using e)
      exact ⟨b, by simpa using e1, e2⟩
theorem kt_all {H : Hp} : ∀ {rows : List Row} {xs : List (List Key × Addr × Value)} {acc : List (List Key × V)} {acx : List (List Key × Addr × Value)}, Paired (fun (r : Row) (x : List Key × Addr × Value) => r.1 = x.1 ∧ r.2.1 = x.2.1 ∧ RelV r.2.2 x.2.2 ∧ H x.2.1 = some (.tup (x.1.map kV))) rows xs →
    KT H acc acx → KT H (rows.foldl (fun acc r => putK acc r.1 r.2.2) acc) (storedAllH acx xs)
  | _, _, _, _, .nil, k => k
  | _, _, acc, acx, .cons (a := r) (b := x) ⟨h1, h2, h3, h4⟩ t, k => by
    have z := KT.put k x.1 (b := x.2.1) (y := r.2.2) (u := x.2.2) h4 h3
    rw [← h1] at z
    have w := kt_all t z
    show KT H (List.foldl _ (putK acc r.1 r.2.2) _) (List.foldl _ (storedH acx x.1 x.2.1 x.2.2) _)
    rw [← h1]
    exact w
theorem foldl_len : ∀ (rows : List Row) (acc : List (List Key × V)), (rows.foldl (fun acc r => putK acc r.1 r.2.2) acc).length ≤ acc.length + rows.length
  | [], acc => by simp
  | r :: rows, acc => by
    have h1 := foldl_len rows (putK acc r.1 r.2.2)
    have h2 := length_putK acc r.1 r.2.2
    rw [List.foldl_cons, List.length_cons]
    omega
theorem ck_dict (hc : X.calm = true) (hu : X.A.units + 64 < cLine) : CallR X (.type "dict") (rDictT X.K) := by
  intro pins s σ H xs us Q I r q
  obtain ⟨a, ps, rows, ex, hq, hp, q⟩ := q
  subst ex
  obtain ⟨u, eu, rx⟩ := vals1 r
  subst eu
  cases rx
  obtain ⟨its, rv, pl, hz⟩ := I.list hq
  have ei := refs_at rv
  subst ei
  rw [List.length_map] at hz
  obtain ⟨zs, rel, hat⟩ := rows_of I hp
  have hl1 : rows.length = zs.length := Paired.length rel
  have hl2 : ps.length = rows.length := Paired.length hp
  obtain ⟨o, n, ho, hcl, hd, hdat⟩ := pl
  have hm : (s.heap.objs.size == sysModules) = false := beq_eq_false_iff_ne.mpr (Nat.ne_of_gt I.big)
  have Ts : ∀ j k v, (zs.map fun x => (Value.ref x.2.1, x.2.2))[j]? = some (k, v) → (ps.map Value.ref).toArray[j]? = some (.ref (ps.getD j 0)) ∧ PairAt s.heap (ps.getD j 0) k v := fun j k v e => by
    rw [List.getElem?_map] at e
    cases ez : zs[j]? with
    | none => rw [ez] at e; cases e
    | some x =>
      rw [ez] at e
      cases e
      obtain ⟨b, e1, e2⟩ := hat j x ez
      refine ⟨by simp [e1], .inl ?_⟩
      rw [List.getD_eq_getElem?_getD, e1]
      exact e2
  refine call_dict_pairsH (knd := tupleKind (mixKind X.prog X.w)) (ps := zs) (PairArg.list a (ps.map Value.ref).toArray (fun j => ps.getD j 0) (zs.map fun x => (Value.ref x.2.1, x.2.2))) (I.ok.hd hc) (show X.A.in1.in1.units < cLine from ?_) ⟨⟨o, n, ho, hcl, hd, hdat⟩, by simp [hl1, hl2], Ts⟩
    ⟨by simp, fun i key v e => ?_⟩ (fun h' k x hx => ?_) (by rw [List.length_map, ← hl1, ← hl2]; exact hz) fun h' tk dd' k => ?_
  · show X.A.units + 1 + 1 < cLine
    omega
  · have e' : (zs.map fun x => (Value.ref x.2.1, x.2.2))[i]? = some (key, v) := e
    rw [List.getElem?_map] at e'
    cases ez : zs[i]? with
    | none => rw [ez] at e'; cases e'
    | some x =>
      rw [ez] at e'
      cases e'
      exact ⟨x.1, x.2.1, rfl, rfl⟩
  · obtain ⟨j, hj, ej⟩ := List.mem_iff_getElem.mp hx
    obtain ⟨r, _, _, _, _, h4⟩ := Paired.at2 (i := j) (y := x) rel (by rw [List.getElem?_eq_getElem hj, ej])
    obtain ⟨o, its, n, g1, g2⟩ := key_of I.hok h4
    exact ⟨o, its, n, k _ _ (Nat.ne_of_lt (Heap.lt_size g1)) (by simp) g1, g2⟩
  · obtain ⟨o, es, ep, hq2, h2, h3, h4, _, h5⟩ := dd'
    have hlen : (mergeT rows).length ≤ sizeLine := by
      have h := foldl_len rows []
      rw [List.length_nil, Nat.zero_add, ← hl2] at h
      exact Nat.le_trans h hz
    have nH := I.hok.fresh (Nat.le_refl s.heap.objs.size)
    have rel2 := kt_all rel (acc := []) (acx := []) .nil
    exact ⟨.ref s.heap.objs.size, upd H s.heap.objs.size (.dT (mergeT rows)), I.laid (t' := tk) (fun b o e => k b o (by simp) e) (Nat.le_refl _) (show ObjOk X.prog X.w _ _ _ (.dT (mergeT rows)) from
      ⟨hlen, hm, _, KT.keeps rel2 (fun c ys ec => by rw [upd_ne (ne_of_none ec nH)]; exact ec), o, es, ep, hq2, h2, h3, h4, h5⟩), rfl, q _ nH⟩
end
/-! ### the rules again, K told apart (within comprehensions) -/
section
variable {X : Cx} (K : PySem.W.Frag) (h : X.K = K := by rfl)
theorem ixL (h : X.K = K := by rfl) : IxR X (rIxL K) := h ▸ ix_list
theorem ixT (h : X.K = K := by rfl) : IxR X (rIxT K) := h ▸ ix_tup
theorem ix2K (h : X.K = K := by rfl) : IxR X (fun x y H Q => rIxL K x y H Q ∨ rIxT K x y H Q) := IxR.or (ixL K h) (ixT K h)
theorem getL (h : X.K = K := by rfl) : PGet X (rGetL K) := h ▸ get_list
theorem slL (h : X.K = K := by rfl) : SlR X (rSlL K) := h ▸ sl_list
theorem slT (h : X.K = K := by rfl) : SlR X (rSlA K) := h ▸ sl_tupA
theorem opEq (hu : X.A.units + 64 < cLine) (h : X.K = K := by rfl) : OpR X (compareOp .Eq) (rEqD K) := h ▸ op_eqD hu
theorem opNe (hu : X.A.units + 64 < cLine) (h : X.K = K := by rfl) : OpR X (compareOp .NotEq) (rNeD K) := h ▸ op_neD hu
theorem opLt (hu : X.A.units + 64 < cLine) (h : X.K = K := by rfl) : OpR X (compareOp .Lt) (rLtD K) := h ▸ op_ltD hu
theorem opCat (h : X.K = K := by rfl) : OpR X (binaryOp .Add) (rCatA K) := h ▸ op_catA
theorem opRep (h : X.K = K := by rfl) : OpR X (binaryOp .Mult) (rRepT K) := h ▸ op_repT
theorem crAll (hc : X.calm = true) (h : X.K = K := by rfl) : CallR X (.builtin "all") (rAll K) := h ▸ cr_all hc
theorem crSum (hc : X.calm = true) (h : X.K = K := by rfl) : CallR X (.builtin "sum") (rSum K) := h ▸ cr_sum hc
theorem crSumT (hc : X.calm = true) (h : X.K = K := by rfl) : CallR X (.builtin "sum") (rSumT K) := h ▸ cr_sumT hc
theorem crLen (h : X.K = K := by rfl) : CallR X (.builtin "len") (fun xs H Q => ∃ p ys, xs = [.ref p] ∧ (SqL K H p ys ∨ SqT K H p ys) ∧ Q (.int ys.length) H) := h ▸ call_len_seq
theorem crListOf (h : X.K = K := by rfl) : CallR X (.type "list") (fun xs H Q => ∃ p ys, xs = [.ref p] ∧ (SqL K H p ys ∨ SqT K H p ys) ∧ ∀ l, H l = none → Q (.ref l) (upd H l (.lst ys))) := h ▸ call_list_of
theorem crTupOf (h : X.K = K := by rfl) : CallR X (.type "tuple") (fun xs H Q => ∃ p ys, xs = [.ref p] ∧ ((SqL K H p ys ∧ ∀ l, H l = none → Q (.ref l) (upd H l (.tup ys))) ∨ (SqT K H p ys ∧ Q (.ref p) H))) := h ▸ call_tuple_of
theorem mtCnt (h : X.K = K := by rfl) : MtR X "list.count" (rCntI K) := h ▸ mt_lcount
theorem ckDict (hc : X.calm = true) (hu : X.A.units + 64 < cLine) (h : X.K = K := by rfl) : CallR X (.type "dict") (rDictT K) := h ▸ ck_dict hc hu
end
section
variable {X : Cx} {K : PySem.W.Frag}
theorem piL {tg l : Expr} {tl : TE} (K : PySem.W.Frag) (hl : PE X l tl) (h : X.K = K := by rfl) : PI X tg l (iList K tl) := h ▸ pi_list hl
theorem piT {tg l : Expr} {tl : TE} (K : PySem.W.Frag) (hl : PE X l tl) (h : X.K = K := by rfl) : PI X tg l (iTup K tl) := h ▸ pi_tup hl
theorem pgT {es : List Expr} {k : Nat} {pos : Pos} {t : TGs} {n : Nat} (K : PySem.W.Frag) (hc : X.calm = true) (q : PGs X es t) (hn : (assignEach es X.env).length = n := by rfl) (hst : (assignEach es X.env).findIdx? (·.1) = none := by rfl) (h : X.K = K := by rfl) : PG X (.Tuple es k pos) (gTup K n t) := h ▸ pg_tup hc q hn hst
theorem pgU {es : List Expr} {k : Nat} {pos : Pos} {t : TGs} {n : Nat} (K : PySem.W.Frag) (hc : X.calm = true) (q : PGs X es t) (hn : (assignEach es X.env).length = n := by rfl) (hst : (assignEach es X.env).findIdx? (·.1) = none := by rfl) (h : X.K = K := by rfl) : PG X (.Tuple es k pos) (gUnl K n t) := h ▸ pg_unl hc q hn hst
theorem peF {e : Expr} {f : Str} {pos : Pos} {ta : TE} (K : PySem.W.Frag) (he : PE X e ta) (hb : attributeBase e f X.env (eval e X.env) = eval e X.env := by rfl) (h : X.K = K := by rfl) : PE X (.Attribute e f pos) (tFld K ta f) := h ▸ pe_fld he hb
theorem peBm {o e : Expr} {es : List Expr} {name : Str} {id T : String} {r : V → List V → Hp → VK → Prop} {to : TE} {t : TA} {apos cpos : Pos} (K : PySem.W.Frag) (pa : PlainAttrs T) (slot : Slot T name id) (hty : typeOf (.builtin id) = pure (.type "method_descriptor")) (hm : MtR X id r) (ho : PE X o to) (ha : PA X (e :: es) t)
    (hbase : attributeBase o name X.env (eval o X.env) = eval o X.env := by rfl)
    (hfew : ((backTo cpos (starEach (e :: es) X.env)).all (fun x => !x.1) && (backToKw cpos (keywordEach [] X.env)).all (fun x => x.1.isSome)
      && decide ((e :: es).length + ([] : List Keyword).length + (if ([] : List Keyword).isEmpty then 0 else 1) < 30)) = true := by rfl)
    (hline : (apos.endLine == cpos.line) = true := by rfl) (hs : starEach (e :: es) X.env = (false, eval e X.env) :: starEach es X.env := by rfl) (hplain : (backTo cpos (starEach es X.env)).any (·.1) = false := by rfl) (h : X.K = K := by rfl) :
    PE X (.Call (.Attribute o name apos) (e :: es) [] cpos) (tBM K T r to t) := h ▸ pe_bm pa slot hty hm ho ha hbase hfew hline hs hplain
theorem paS {e : Expr} {es : List Expr} {te : TE} {t : TA} {p : Pos} (K : PySem.W.Frag) (he : PE X e te) (hr : PA X es t) (hs : starEach (.Starred e p :: es) X.env = (true, eval e X.env) :: starEach es X.env := by rfl) (h : X.K = K := by rfl) : PA X (.Starred e p :: es) (tStar K te t) := h ▸ pa_star he hr hs
end
/-! ### data of numbers -/
def nD (l : List Nat) : List PyData := (l.map fun n : Nat => (n : Int)).map PyData.int
theorem dpN {K : PySem.W.Frag} {H : Hp} : ∀ l : List Nat, DpAll K H (nIs l) (nD l)
  | [] => .nil
  | n :: l => .cons (.int _) (dpN l)
theorem shapedL (l : List Nat) : SeqAt.shaped (.list (nD l)) = true := PySem.W.ke_shaped_ints _
theorem shapedT (l : List Nat) : SeqAt.shaped (.tuple (nD l)) = true := by
  have h := shapedL l
  simp only [SeqAt.shaped, PyData.canLay0, PyData.depth] at h ⊢
  exact h
theorem eqvN : ∀ a b : List Nat, PyData.eqvAll (nD a) (nD b) = decide (a = b)
  | [], [] => by simp [nD, PyData.eqvAll]
  | [], _ :: _ => by simp [nD, PyData.eqvAll]
  | _ :: _, [] => by simp [nD, PyData.eqvAll]
  | m :: a, n :: b => by
    have ih := eqvN a b
    show PyData.eqvAll (PyData.int (m : Int) :: nD a) (PyData.int (n : Int) :: nD b) = _
    unfold PyData.eqvAll
    rw [ih]
    by_cases h : m = n
    · subst h; simp [PyData.eqv]
    · have h' : ¬ (m : Int) = (n : Int) := by omega
      simp [PyData.eqv, h, h']
theorem eqvL (a b : List Nat) : PyData.eqv (.list (nD a)) (.list (nD b)) = decide (a = b) := by
  rw [← eqvN]
  simp only [PyData.eqv]
theorem eqvT (a b : List Nat) : PyData.eqv (.tuple (nD a)) (.tuple (nD b)) = decide (a = b) := by
  rw [← eqvN]
  simp only [PyData.eqv]
end K81
set_option maxHeartbeats 2000000
namespace K81
open PySem PySem.Spec PyProof.Rows L2 LamX K81M
/-! ### names, entries, ledgers in the heap -/
def NmAt (H : Hp) (a : Addr) (n : Nm) : Prop := H a = some (.tup [nI n.1, nI n.2])
def EnAt (H : Hp) (a : Addr) (e : En) : Prop := ∃ p q, H a = some (.tup [.ref p, .ref q]) ∧ NmAt H p e.1 ∧ NmAt H q e.2
/-- values that are references to such things -/
def Refs {α : Type} (P : Hp → Addr → α → Prop) (H : Hp) (vs : List V) (xs : List α) : Prop := Paired (fun v x => ∃ a, v = .ref a ∧ P H a x) vs xs
def LedAt (H : Hp) (a : Addr) (c : List Nat) (E : List En) : Prop := ∃ ca ea vs, H a = some (.tup [.ref ca, .ref ea]) ∧ H ca = some (.tup (nIs c)) ∧ H ea = some (.tup vs) ∧ Refs EnAt H vs E
section
variable {T : List (Addr × Str)} {S : List Addr} {H H' : Hp} {a : Addr}
theorem NmAt.fr {n : Nm} (h : NmAt H a n) (f : Fr T [] H H') : NmAt H' a n := f.tup0 h
theorem EnAt.fr {n : En} (h : EnAt H a n) (f : Fr T [] H H') : EnAt H' a n := by
  obtain ⟨p, q, h1, h2, h3⟩ := h
  exact ⟨p, q, f.tup0 h1, h2.fr f, h3.fr f⟩
theorem Refs.fr {α : Type} {P : Hp → Addr → α → Prop} {vs : List V} {xs : List α} (h : Refs P H vs xs) (hp : ∀ a x, P H a x → P H' a x) : Refs P H' vs xs :=
  Paired.mapP h fun v x ⟨a, e, q⟩ => ⟨a, e, hp a x q⟩
theorem LedAt.fr {c : List Nat} {E : List En} (h : LedAt H a c E) (f : Fr T [] H H') : LedAt H' a c E := by
  obtain ⟨ca, ea, vs, h1, h2, h3, h4⟩ := h
  exact ⟨ca, ea, vs, f.tup0 h1, f.tup0 h2, f.tup0 h3, h4.fr fun a x q => q.fr f⟩
end
def isB (t U : String) : Bool := t == U || (t == "bool" && U == "int")
theorem TyS.kit_int {H : Hp} {x : V} {t : String} (h : TyS H x t) : kitB t "int" = some (isB t "int") := by cases h <;> decide +kernel
theorem TyS.kit_bool {H : Hp} {x : V} {t : String} (h : TyS H x t) : kitB t "bool" = some (isB t "bool") := by cases h <;> decide +kernel
theorem TyS.kit_tuple {H : Hp} {x : V} {t : String} (h : TyS H x t) : kitB t "tuple" = some (isB t "tuple") := by cases h <;> decide +kernel
section
variable {P : Program} {w : World} {K : PySem.W.Frag} {mg : Str → Option Value} {base : Heap} {Tb : List (Addr × Str)} {f : Addr} {fd : FuncData}
/-! ### is_number -/
def spNumber : Sp := fun vs H Q _ => ∃ x t, vs = [x] ∧ TyS H x t ∧ Q (.bl (t == "int")) H
theorem sc_is_number : FnScope ["thing"] ["thing"] (defScope (top 7)) := ⟨rfl, rfl, rfl, by decide +kernel, rfl, by decide +kernel, by decide +kernel⟩
theorem ok_is_number (F : Fun K "is_number" "is_number" (top 7) f fd) (T : Txt mg) : FnOk P w K mg base CX0 1 f fd ["thing"] spNumber := by
  refine F.ok sc_is_number (fun vs H Q E h => ?_) (fun cdv A outer s H vs Q E hr h => ?_)
  · obtain ⟨x, t, rfl, _⟩ := h
    rfl
  · obtain ⟨x, t, rfl, ty, k⟩ := h
    refine ⟨_, 
      (pss_one (ps_ret (pe_and (pe_callB ck_isi (by rfl) T.f_isinstance (by decide +kernel) (pa_cons (pv 0) (pa_cons (pe_bltn (by rfl) T.f_int (by decide +kernel) (v := .ty "int") rfl) pa_nil))) (pe_one (pe_not (pe_callB ck_isi (by rfl) T.f_isinstance (by decide +kernel) (pa_cons (pv 0) (pa_cons (pe_bltn (by rfl) T.f_bool (by decide +kernel) (v := .ty "bool") rfl) pa_nil))))))))
      , ?_⟩
    refine ⟨_, rfl, _, t, "int", _, rfl, ty, ty.kit_int, _, rfl, ?_⟩
    cases e : isB t "int" with
    | false =>
      refine iteF ?_
      cases ty <;> first | exact k | (exact absurd e (by decide))
    | true =>
      refine iteT ⟨_, rfl, _, t, "bool", _, rfl, ty, ty.kit_bool, _, rfl, ?_⟩
      cases ty <;> first | exact k | (exact absurd e (by decide))
/-! ### is_between -/
def spBetween : Sp := fun vs H Q _ => ∃ x lo hi, vs = [x, .int lo, .int hi] ∧ ((∃ i, x = .int i ∧ Q (.bl (decide (lo ≤ i ∧ i ≤ hi))) H) ∨ (∃ t, TyS H x t ∧ t ≠ "int" ∧ Q (.bl false) H))
theorem sc_is_between : FnScope ["thing", "low", "high"] ["thing", "low", "high"] (defScope (top 8)) := ⟨rfl, rfl, rfl, by decide +kernel, rfl, by decide +kernel, by decide +kernel⟩
theorem ok_is_between (F : Fun K "is_between" "is_between" (top 8) f fd) (T : Txt mg) (C_is_number : Cl P w K mg base CX0 1 "is_number" spNumber) : FnOk P w K mg base CX0 2 f fd ["thing", "low", "high"] spBetween := by
  refine F.ok sc_is_between (fun vs H Q E h => ?_) (fun cdv A outer s H vs Q E hr h => ?_)
  · obtain ⟨x, lo, hi, rfl, _⟩ := h
    rfl
  · obtain ⟨x, lo, hi, rfl, k⟩ := h
    refine ⟨_, 
      (pss_one (ps_ret (pe_and (cl0 C_is_number hr (by decide) (by rfl) (pa_cons (pv 0) pa_nil)) (pe_one (pe_chain op_le op_le (pv 1) (pv 0) (pv 2))))))
      , ?_⟩
    rcases k with ⟨i, rfl, k⟩ | ⟨t, ty, hne, k⟩
    · refine ⟨_, rfl, _, "int", rfl, .int i, true, rfl, iteT ?_⟩
      refine ⟨_, rfl, _, rfl, _, _, rfl, rfl, _, rfl, ?_⟩
      by_cases h1 : lo ≤ i
      · rw [decide_eq_true h1]
        refine iteT ⟨_, rfl, _, _, rfl, rfl, ?_⟩
        have e : decide (lo ≤ i ∧ i ≤ hi) = decide (i ≤ hi) := by simp [h1]
        rw [e] at k
        exact k
      · rw [decide_eq_false h1]
        refine iteF ?_
        have e : decide (lo ≤ i ∧ i ≤ hi) = false := by simp [h1]
        rw [e] at k
        exact k
    · refine ⟨_, rfl, _, t, rfl, ty, _, rfl, ?_⟩
      rw [show (t == "int") = false from beq_eq_false_iff_ne.mpr hne]
      exact iteF k
/-! ### is_list -/
def spList (Tb : List (Addr × Str)) : Sp := fun vs H Q _ => ∃ x t, vs = [x] ∧ TyS H x t ∧ ∀ H', Fr Tb [] H H' → Q (.bl (t == "list" || t == "tuple")) H'
theorem TyS.fr {H H' : Hp} {x : V} {t : String} (h : TyS H x t) (f : Fr T [] H H') : TyS H' x t := by
  cases h with
  | non => exact .non
  | bl b => exact .bl b
  | int i => exact .int i
  | str x => exact .str x
  | lst e => exact .lst (f.lst0 e)
  | tup e => exact .tup (f.tup0 e)
  | fz e => exact .fz (f.fz0 e)
theorem sc_is_list : FnScope ["thing"] ["thing"] (defScope (top 9)) := ⟨rfl, rfl, rfl, by decide +kernel, rfl, by decide +kernel, by decide +kernel⟩
theorem ok_is_list (F : Fun K "is_list" "is_list" (top 9) f fd) (T : Txt mg) : FnOk P w K mg base CX0 1 f fd ["thing"] (spList Tb) := by
  refine F.ok sc_is_list (fun vs H Q E h => ?_) (fun cdv A outer s H vs Q E hr h => ?_)
  · obtain ⟨x, t, rfl, _⟩ := h
    rfl
  · obtain ⟨x, t, rfl, ty, k⟩ := h
    refine ⟨_, 
      (pss_one (ps_ret (pe_callB ck_isLT (by rfl) T.f_isinstance (by decide +kernel) (pa_cons (pv 0) (pa_cons (pe_tup (pa_cons (pe_bltn (by rfl) T.f_list (by decide +kernel) (v := .ty "list") rfl) (pa_cons (pe_bltn (by rfl) T.f_tuple (by decide +kernel) (v := .ty "tuple") rfl) pa_nil))) pa_nil)))))
      , ?_⟩
    refine ⟨_, rfl, (by show 2 ≤ sizeLine; decide), fun p hp => ?_⟩
    exact ⟨x, t, p, _, rfl, upd_same, ty.fr (Fr.new (T := Tb) hp), rfl, k _ (Fr.new hp)⟩
/-! ### is_tuple -/
def spTuple : Sp := fun vs H Q _ => ∃ x n, vs = [x, .int n] ∧ ((∃ a xs, x = .ref a ∧ H a = some (.tup xs) ∧ Q (.bl (decide ((xs.length : Int) = n))) H) ∨ (∃ t, TyS H x t ∧ t ≠ "tuple" ∧ Q (.bl false) H))
theorem sc_is_tuple : FnScope ["thing", "size"] ["thing", "size"] (defScope (top 10)) := ⟨rfl, rfl, rfl, by decide +kernel, rfl, by decide +kernel, by decide +kernel⟩
theorem ok_is_tuple (F : Fun K "is_tuple" "is_tuple" (top 10) f fd) (T : Txt mg) : FnOk P w K mg base CX0 1 f fd ["thing", "size"] spTuple := by
  refine F.ok sc_is_tuple (fun vs H Q E h => ?_) (fun cdv A outer s H vs Q E hr h => ?_)
  · obtain ⟨x, n, rfl, _⟩ := h
    rfl
  · obtain ⟨x, n, rfl, k⟩ := h
    refine ⟨_, 
      (pss_one (ps_ret (pe_and (pe_callB ck_isi (by rfl) T.f_isinstance (by decide +kernel) (pa_cons (pv 0) (pa_cons (pe_bltn (by rfl) T.f_tuple (by decide +kernel) (v := .ty "tuple") rfl) pa_nil))) (pe_one (pe_cmpR op_eq (pe_callB (crLen K) (by rfl) T.f_len PySem.boot_len (pa_cons (pv 0) pa_nil)) (pv 1) (nomark _))))))
      , ?_⟩
    rcases k with ⟨a, xs, rfl, ha, k⟩ | ⟨t, ty, hne, k⟩
    · refine ⟨_, rfl, _, "tuple", "tuple", true, rfl, .tup ha, by decide +kernel, _, rfl, iteT ?_⟩
      refine ⟨_, rfl, a, xs, rfl, .inr (SqT.of ha), _, rfl, rfl, ?_⟩
      have e : decide (V.int (xs.length : Int) = V.int n) = decide ((xs.length : Int) = n) := by
        by_cases z : (xs.length : Int) = n <;> simp [z]
      rw [← e] at k
      exact k
    · refine ⟨_, rfl, _, t, "tuple", _, rfl, ty, ty.kit_tuple, _, rfl, ?_⟩
      cases ty <;> first | exact iteF k | exact absurd rfl hne
/-! ### is_count_row -/
def spCountRow (Tb : List (Addr × Str)) : Sp := fun vs H Q _ => ∃ a c, vs = [.ref a] ∧ H a = some (.tup (nIs c)) ∧ c.length = 4 ∧ (∀ n ∈ c, n ≤ 2000) ∧ ∀ H', Fr Tb [] H H' → Q (.bl true) H'
theorem sc_is_count_row : FnScope ["thing", "item"] ["thing"] (defScope (top 18)) := ⟨rfl, rfl, rfl, by decide +kernel, rfl, by decide +kernel, by decide +kernel⟩
theorem yes_lc {te : TE} {s : L2.St} {H : Hp} {K : VK} {N : Hp → Prop} (h : te s H K) : tYes s H (fun b H3 => if b = true then te s H3 K else N H3) := by
  show (if true = true then te s H K else N H)
  rw [if_pos rfl]
  exact h
theorem all_true : ∀ (n : Nat), (List.replicate n true).all id = true
  | 0 => rfl
  | n + 1 => by rw [List.replicate_succ, List.all_cons, all_true n]; rfl
theorem ok_is_count_row (F : Fun K "is_count_row" "is_count_row" (top 18) f fd) (T : Txt mg) (C_is_tuple : Cl P w K mg base CX0 1 "is_tuple" spTuple) (C_is_between : Cl P w K mg base CX0 2 "is_between" spBetween) :
    FnOk P w K mg base CX0 3 f fd ["thing"] (spCountRow Tb) := by
  refine F.ok sc_is_count_row (fun vs H Q E h => ?_) (fun cdv A outer s H vs Q E hr h => ?_)
  · obtain ⟨x, t, rfl, _⟩ := h
    rfl
  · obtain ⟨a, c, rfl, ha, h4, hc, k⟩ := h
    refine ⟨_, 
      (pss_one (ps_ret (pe_and (cl0 C_is_tuple hr (by decide) (by rfl) (pa_cons (pv 0) (pa_cons (gI (by rfl) T.c_MOST_THREADS) pa_nil))) (pe_one (pe_callB (crAll K rfl) (by rfl) T.f_all (by decide +kernel) (pa_cons (pe_lc (own := [("item", 1)]) (by rfl) sc_is_count_row.nd (piT K (pv 0)) (blkOk_by (by kernel_rfl)) (fun _ _ _ _ _ => (pg_name (i := 1) sc_is_count_row.nd rfl (by first | exact Or.inl rfl | exact Or.inr rfl))) (fun _ _ _ _ _ => pts_nil) (fun _ _ _ _ _ => (cl0 C_is_between hr (by decide) (by rfl) (pa_cons (pv 1) (pa_cons pe_int (pa_cons (gI (by rfl) T.c_MOST_LEDGER_STEPS) pa_nil)))))) pa_nil))))))
      , ?_⟩
    refine ⟨_, rfl, _, 4, rfl, .inl ⟨a, _, rfl, ha, _, rfl, ?_⟩⟩
    rw [show decide (((nIs c).length : Int) = 4) = true by rw [List.length_map, h4]; rfl]
    refine iteT ⟨_, rfl, a, rfl, ⟨_, SqT.of ha⟩, fun D hD => lc_tup (K := K) (a := a) (xs := nIs c) (fun i H' => H' = upd H D (.lst ((List.replicate i true).map V.bl))) rfl (fun i H' _ e => by
      rw [e]
      exact SqT.of (by rw [upd_ne (ne_of_none ha hD)]; exact ha)) ?_ ?_⟩
    · rintro i x H' hx rfl
      obtain ⟨n, hn, rfl⟩ : ∃ n, c[i]? = some n ∧ x = nI n := by
        rw [List.getElem?_map] at hx
        cases q : c[i]? with
        | none => rw [q] at hx; cases hx
        | some n => rw [q] at hx; exact ⟨n, rfl, (Option.some.inj hx).symm⟩
      refine ⟨rfl, yes_lc ?_⟩
      refine ⟨_, rfl, _, 0, 2000, rfl, .inl ⟨_, rfl, ?_⟩⟩
      have hb : decide ((0 : Int) ≤ (n : Int) ∧ (n : Int) ≤ 2000) = true := decide_eq_true ⟨by omega, by have := hc n (List.mem_of_getElem? hn); omega⟩
      rw [hb]
      refine ⟨_, upd_same, ?_, ?_⟩
      · have hi := (List.getElem?_eq_some_iff.mp hn).1
        rw [List.length_map, List.length_replicate]
        exact Nat.lt_of_lt_of_le (by omega : i < 4) (by decide)
      · rw [upd_upd, List.replicate_succ', List.map_append]
        rfl
    · rintro H' rfl
      refine ⟨D, List.replicate (nIs c).length true, rfl, SqL.of upd_same, ?_⟩
      rw [all_true]
      exact k _ (Fr.new hD)
/-! ### is_step_name, is_ledger_entry -/
def spStepName : Sp := fun vs H Q _ => ∃ ca a c n, vs = [.ref ca, .ref a] ∧ H ca = some (.tup (nIs c)) ∧ NmAt H a n ∧ c.length = 4 ∧ n.1 < 4 ∧ n.2 < at0 c n.1 ∧ Q (.bl true) H
theorem atI_nIs {c : List Nat} {t : Nat} (h : t < c.length) : atI (nIs c) (t : Int) = some (nI (at0 c t)) := by
  refine atI_nat ?_
  rw [List.getElem?_map, List.getElem?_eq_getElem h]
  unfold at0
  rw [List.getD_eq_getElem?_getD, List.getElem?_eq_getElem h]
  rfl
theorem sc_is_step_name : FnScope ["counts", "thing"] ["counts", "thing"] (defScope (top 19)) := ⟨rfl, rfl, rfl, by decide +kernel, rfl, by decide +kernel, by decide +kernel⟩
theorem ok_is_step_name (F : Fun K "is_step_name" "is_step_name" (top 19) f fd) (T : Txt mg) (C_is_tuple : Cl P w K mg base CX0 1 "is_tuple" spTuple) (C_is_between : Cl P w K mg base CX0 2 "is_between" spBetween) :
    FnOk P w K mg base CX0 3 f fd ["counts", "thing"] spStepName := by
  refine F.ok sc_is_step_name (fun vs H Q E h => ?_) (fun cdv A outer s H vs Q E hr h => ?_)
  · obtain ⟨ca, a, c, n, rfl, _⟩ := h
    rfl
  · obtain ⟨ca, a, c, n, rfl, hc, ha, h4, h1, h2, k⟩ := h
    refine ⟨_, 
      (pss_cons (ps_if (PW.pt (pw_or (pt_not (pt_val (cl0 C_is_tuple hr (by decide) (by rfl) (pa_cons (pv 1) (pa_cons pe_int pa_nil))))) (pw_or1 (pt_not (pt_val (cl0 C_is_between hr (by decide) (by rfl) (pa_cons (pe_ix (ixT K) (pv 1) pe_int (fun _ _ => rfl)) (pa_cons pe_int (pa_cons (pe_op op_sub (gI (by rfl) T.c_MOST_THREADS) pe_int) pa_nil)))))))))
      (pss_one (ps_ret pe_bl)) pss_nil)
      (pss_one (ps_ret (cl0 C_is_between hr (by decide) (by rfl) (pa_cons (pe_ix (ixT K) (pv 1) pe_int (fun _ _ => rfl)) (pa_cons pe_int (pa_cons (pe_op op_sub (pe_ix (ixT K) (pv 0) (pe_ix (ixT K) (pv 1) pe_int (fun _ _ => rfl)) (fun _ _ => rfl)) pe_int) pa_nil)))))))
      , ?_⟩
    refine ⟨_, rfl, _, 2, rfl, .inl ⟨a, _, rfl, ha, _, rfl, ?_⟩⟩
    refine iteF ?_
    refine ⟨_, rfl, a, _, 0, _, rfl, rfl, SqT.of ha, rfl, ?_⟩
    refine ⟨_, _, rfl, rfl, _, 0, 3, rfl, .inl ⟨_, rfl, _, rfl, ?_⟩⟩
    rw [show decide ((0 : Int) ≤ (n.1 : Int) ∧ (n.1 : Int) ≤ 3) = true from decide_eq_true ⟨by omega, by omega⟩]
    refine iteF ?_
    refine ⟨_, rfl, a, _, 1, _, rfl, rfl, SqT.of ha, rfl, ?_⟩
    refine ⟨_, rfl, _, rfl, a, _, 0, _, rfl, rfl, SqT.of ha, rfl, ?_⟩
    refine ⟨ca, _, _, _, rfl, rfl, SqT.of hc, atI_nIs (by omega), ?_⟩
    refine ⟨_, _, rfl, rfl, _, 0, _, rfl, .inl ⟨_, rfl, ?_⟩⟩
    rw [show decide ((0 : Int) ≤ (n.2 : Int) ∧ (n.2 : Int) ≤ (at0 c n.1 : Int) - 1) = true from decide_eq_true ⟨by omega, by omega⟩]
    exact k
def spLedgerEntry : Sp := fun vs H Q _ => ∃ ca a c e, vs = [.ref ca, .ref a] ∧ H ca = some (.tup (nIs c)) ∧ EnAt H a e ∧ c.length = 4 ∧ (e.1.1 < 4 ∧ e.1.2 < at0 c e.1.1) ∧ (e.2.1 < 4 ∧ e.2.2 < at0 c e.2.1) ∧ e.1.1 ≠ e.2.1 ∧ Q (.bl true) H
theorem sc_is_ledger_entry : FnScope ["counts", "thing"] ["counts", "thing"] (defScope (top 20)) := ⟨rfl, rfl, rfl, by decide +kernel, rfl, by decide +kernel, by decide +kernel⟩
theorem ok_is_ledger_entry (F : Fun K "is_ledger_entry" "is_ledger_entry" (top 20) f fd) (T : Txt mg) (C_is_tuple : Cl P w K mg base CX0 1 "is_tuple" spTuple) (C_is_step_name : Cl P w K mg base CX0 3 "is_step_name" spStepName) :
    FnOk P w K mg base CX0 4 f fd ["counts", "thing"] spLedgerEntry := by
  refine F.ok sc_is_ledger_entry (fun vs H Q E h => ?_) (fun cdv A outer s H vs Q E hr h => ?_)
  · obtain ⟨ca, a, c, n, rfl, _⟩ := h
    rfl
  · obtain ⟨ca, a, c, e, rfl, hc, ⟨p, q, ha, hp, hq⟩, h4, h1, h2, hne, k⟩ := h
    refine ⟨_, 
      (pss_cons (ps_if (PW.pt (pw_or (pt_not (pt_val (cl0 C_is_tuple hr (by decide) (by rfl) (pa_cons (pv 1) (pa_cons pe_int pa_nil))))) (pw_or (pt_not (pt_val (cl0 C_is_step_name hr (by decide) (by rfl) (pa_cons (pv 0) (pa_cons (pe_ix (ixT K) (pv 1) pe_int (fun _ _ => rfl)) pa_nil))))) (pw_or1 (pt_not (pt_val (cl0 C_is_step_name hr (by decide) (by rfl) (pa_cons (pv 0) (pa_cons (pe_ix (ixT K) (pv 1) pe_int (fun _ _ => rfl)) pa_nil)))))))))
      (pss_one (ps_ret pe_bl)) pss_nil)
      (pss_one (ps_ret (pe_cmpR op_ne (pe_ix (ixT K) (pe_ix (ixT K) (pv 1) pe_int (fun _ _ => rfl)) pe_int (fun _ _ => rfl)) (pe_ix (ixT K) (pe_ix (ixT K) (pv 1) pe_int (fun _ _ => rfl)) pe_int (fun _ _ => rfl)) (nomark _)))))
      , ?_⟩
    refine ⟨_, rfl, _, 2, rfl, .inl ⟨a, _, rfl, ha, _, rfl, ?_⟩⟩
    refine iteF ?_
    refine ⟨_, rfl, _, rfl, a, _, 0, _, rfl, rfl, SqT.of ha, rfl, ?_⟩
    refine ⟨ca, p, c, e.1, rfl, hc, hp, h4, h1.1, h1.2, _, rfl, iteF ?_⟩
    refine ⟨_, rfl, _, rfl, a, _, 1, _, rfl, rfl, SqT.of ha, rfl, ?_⟩
    refine ⟨ca, q, c, e.2, rfl, hc, hq, h4, h2.1, h2.2, _, rfl, iteF ?_⟩
    refine ⟨_, rfl, a, _, 0, _, rfl, rfl, SqT.of ha, rfl, ?_⟩
    refine ⟨p, _, 0, _, rfl, rfl, SqT.of hp, rfl, ?_⟩
    refine ⟨_, rfl, a, _, 1, _, rfl, rfl, SqT.of ha, rfl, ?_⟩
    refine ⟨q, _, 0, _, rfl, rfl, SqT.of hq, rfl, rfl, ?_⟩
    have e : (!decide (nI e.1.1 = nI e.2.1)) = true := by
      have : ¬ (nI e.1.1 = nI e.2.1) := fun z => hne (by injection z with z; omega)
      rw [decide_eq_false this]; rfl
    rw [e]
    exact k
end
end K81
set_option maxHeartbeats 2000000
namespace K81
open PySem PySem.Spec PyProof.Rows L2 LamX K81M StX RZ
/-! ### frames again -/
section
variable {T : List (Addr × Str)} {S : List Addr} {H H' : Hp} {a p q : Addr} {o : HO}
theorem Fr.lstw {xs : List V} (f : Fr T S H H') (hn : H p = none ∨ p ∈ S) (he : H' p = some (.lst xs)) : Fr T S H (upd H' p o) :=
  f.write hn (by rw [he]; simp) (fun _ z => by rw [he] at z; cases z) (fun _ z => by rw [he] at z; cases z) (fun _ z => by rw [he] at z; cases z)
theorem Fr.dTw {kvs : List (List Key × V)} (f : Fr T S H H') (hn : H p = none ∨ p ∈ S) (he : H' p = some (.dT kvs)) : Fr T S H (upd H' p o) :=
  f.write hn (by rw [he]; simp) (fun _ z => by rw [he] at z; cases z) (fun _ z => by rw [he] at z; cases z) (fun _ z => by rw [he] at z; cases z)
theorem Fr.dKw {kvs : List (Key × V)} (f : Fr T S H H') (hn : H p = none ∨ p ∈ S) (he : H' p = some (.dK kvs)) : Fr T S H (upd H' p o) :=
  f.write hn (by rw [he]; simp) (fun _ z => by rw [he] at z; cases z) (fun _ z => by rw [he] at z; cases z) (fun _ z => by rw [he] at z; cases z)
end
theorem nIs_at {c : List Nat} {i : Nat} {x : V} (h : (nIs c)[i]? = some x) : ∃ n, c[i]? = some n ∧ x = nI n := by
  rw [List.getElem?_map] at h
  cases q : c[i]? with
  | none => rw [q] at h; cases h
  | some n => rw [q] at h; exact ⟨n, rfl, (Option.some.inj h).symm⟩
/-! ### what waits for what -/
def nk (n : Nm) : List Key := [.inl (n.1 : Int), .inl (n.2 : Int)]
theorem nk_kV (n : Nm) : (nk n).map kV = [nI n.1, nI n.2] := rfl
theorem nk_inj {n m : Nm} (h : nk n = nk m) : n = m := by
  unfold nk at h
  injection h with h1 h2
  injection h2 with h2 _
  injection h1 with h1
  injection h2 with h2
  exact Prod.ext (by omega) (by omega)
/-- for which steps n waits -/
def onesOf (E : List En) (n : Nm) : List Nm := (E.filter fun e => decide (e.2 = n)).map (·.1)
def WRow (H : Hp) (o : Option V) (ns : List Nm) : Prop := match o with
  | none => ns = []
  | some v => ∃ l vs, v = .ref l ∧ H l = some (.lst vs) ∧ Refs NmAt H vs ns
def WaitsAt (H : Hp) (w : Addr) (E : List En) : Prop := ∃ kvs, H w = some (.dT kvs) ∧ ∀ n : Nm, WRow H (valV kvs (nk n)) (onesOf E n)
theorem WRow.fr {T : List (Addr × Str)} {H H' : Hp} {o : Option V} {ns : List Nm} (h : WRow H o ns) (f : Fr T [] H H') : WRow H' o ns := by
  cases o with
  | none => exact h
  | some v =>
    obtain ⟨l, vs, e, h1, h2⟩ := h
    exact ⟨l, vs, e, f.lst0 h1, h2.fr fun a x q => q.fr f⟩
theorem WaitsAt.fr {T : List (Addr × Str)} {H H' : Hp} {w : Addr} {E : List En} (h : WaitsAt H w E) (f : Fr T [] H H') : WaitsAt H' w E := by
  obtain ⟨kvs, h1, h2⟩ := h
  exact ⟨kvs, f.ext w _ h1 (by simp) fun _ z => (by cases z), fun n => (h2 n).fr f⟩
theorem Paired.snoc {α β : Type} {F : α → β → Prop} {x : α} {y : β} (r : F x y) : ∀ {l : List α} {m : List β}, Paired F l m → Paired F (l ++ [x]) (m ++ [y])
  | _, _, .nil => .cons r .nil
  | _, _, .cons q t => .cons q (Paired.snoc r t)
theorem onesOf_snoc (E : List En) (e : En) (n : Nm) : onesOf (E ++ [e]) n = if e.2 = n then onesOf E n ++ [e.1] else onesOf E n := by
  unfold onesOf
  rw [List.filter_append, List.map_append]
  by_cases h : e.2 = n
  · simp [h]
  · simp [h]
theorem take_snoc {α : Type} {l : List α} {i : Nat} {x : α} (h : l[i]? = some x) : l.take (i + 1) = l.take i ++ [x] := by
  rw [List.take_add_one, h]
  rfl
/-- the state of waits_of between the turns: the dict at w, its lists all new and apart -/
def WInv (T : List (Addr × Str)) (H0 H : Hp) (w : Addr) (E : List En) : Prop := Fr T [] H0 H ∧ H0 w = none ∧ ∃ kvs, H w = some (.dT kvs) ∧ kvs.length ≤ E.length ∧ (∀ n : Nm, WRow H (valV kvs (nk n)) (onesOf E n)) ∧
  (∀ n l, valV kvs (nk n) = some (.ref l) → H0 l = none ∧ l ≠ w) ∧ ∀ n m l, valV kvs (nk n) = some (.ref l) → valV kvs (nk m) = some (.ref l) → n = m
section
variable {P : Program} {w : World} {K : PySem.W.Frag} {mg : Str → Option Value} {base : Heap} {Tb : List (Addr × Str)} {f : Addr} {fd : FuncData}
def spWaits (Tb : List (Addr × Str)) : Sp := fun vs H Q _ => ∃ ea es E, vs = [.ref ea] ∧ H ea = some (.tup es) ∧ Refs EnAt H es E ∧ E.length ≤ 1000 ∧ ∀ H' p, Fr Tb [] H H' → H p = none → WaitsAt H' p E → Q (.ref p) H'
theorem sc_waits_of : FnScope ["entries", "found", "one", "other"] ["entries"] (defScope (top 21)) := ⟨rfl, rfl, rfl, by decide +kernel, rfl, by decide +kernel, by decide +kernel⟩
theorem len_put_le (kvs : List (List Key × V)) (k : List Key) (v : V) : (putK kvs k v).length ≤ kvs.length + 1 := by have := length_putK kvs k v; omega
theorem ok_waits_of (F : Fun K "waits_of" "waits_of" (top 21) f fd) (T : Txt mg) : FnOk P w K mg base CX0 1 f fd ["entries"] (spWaits Tb) := by
  refine F.ok sc_waits_of (fun vs H Q E h => ?_) (fun cdv A outer s H vs Q E hr h => ?_)
  · obtain ⟨x, es, E, rfl, _⟩ := h
    rfl
  · obtain ⟨ea, es, En, rfl, he, hE, hlen, k⟩ := h
    refine ⟨_, 
      (pss_cons (ps_set (i := 1) sc_waits_of.nd rfl (by first | exact Or.inl rfl | exact Or.inr rfl) pe_dnewT)
      (pss_cons (ps_for PassesOwn.never rfl (piT K (pv 0)) (pgT (n := 2) K (by rfl) (pgs_cons (pg_name (i := 2) sc_waits_of.nd rfl (by first | exact Or.inl rfl | exact Or.inr rfl)) (pgs_cons (pg_name (i := 3) sc_waits_of.nd rfl (by first | exact Or.inl rfl | exact Or.inr rfl)) pgs_nil)))
      (pss_one (ps_expr (peBm K PySem.F.plainAttrs_list PySem.F.slot_list_append PySem.F.type_list_append mt_append (peBm K PySem.F.plainAttrs_dict PySem.F.slot_dict_setdefault PySem.F.type_dict_setdefault (mt_setdT (hu_of hr)) (pv 1) (pa_cons (pv 3) (pa_cons (pe_lst pa_nil) pa_nil))) (pa_cons (pv 2) pa_nil)))))
      (pss_one (ps_ret (pv 1)))))
      , ?_⟩
    intro fw hfw
    refine ⟨_, rfl, ea, rfl, ⟨_, SqT.of (by rw [upd_ne (ne_of_none he hfw)]; exact he)⟩, for_tup (K := K) (a := ea) (xs := es) (fun i σ H' => ∃ v1 v2, σ = [some (.ref ea), some (.ref fw), v1, v2] ∧ WInv Tb H H' fw (En.take i)) ?_ (fun i σ H' _ ⟨_, _, _, I⟩ => SqT.of (I.1.tup0 he)) ?_ ?_⟩
    · refine ⟨none, none, rfl, Fr.new hfw, hfw, [], upd_same, Nat.le_refl _, fun n => ?_, fun n l e => ?_, fun n m l e => ?_⟩
      · show onesOf [] n = []
        rfl
      · cases e
      · cases e
    · rintro i x σ H' hx ⟨v1, v2, rfl, fr, hw0, kvs, hd, hkl, hrow, hnew, happ⟩
      obtain ⟨e, he', a, rfl, p, q, h1, h2, h3⟩ := Paired.at hE hx
      have hi := (List.getElem?_eq_some_iff.mp he').1
      have h1' := fr.tup0 h1
      have h2' := h2.fr fr
      have h3' := h3.fr fr
      have hq' : H' q = some (.tup ((nk e.2).map kV)) := h3'
      refine ⟨a, _, rfl, SqT.of h1', rfl, _, _, rfl, _, _, rfl, rfl, ?_⟩
      refine ⟨_, rfl, .inr (.inr (.inl ⟨rfl, .inr ⟨kvs, hd⟩⟩)), _, rfl, Nat.zero_le _, fun l hl => ?_⟩
      have nfl : fw ≠ l := ne_of_none hd hl
      have frl : Fr Tb [] H (upd H' l (.lst [])) := fr.upd_new hl
      have hl0 := fr.free hl
      have klen : kvs.length ≤ i := by rw [List.length_take] at hkl; omega
      have ksz : kvs.length < sizeLine := Nat.lt_of_le_of_lt (by omega : kvs.length ≤ 1000) (by decide)
      refine ⟨fw, kvs, nk e.2, q, .ref l, rfl, rfl, by rw [upd_ne nfl]; exact hd, by rw [upd_ne (ne_of_none hq' hl)]; exact hq', ksz, fun v hv => ?_, fun hv => ?_⟩
      · -- the key is there
        have hr2 := hrow e.2
        rw [hv] at hr2
        obtain ⟨l0, vs0, rfl, g1, g2⟩ := hr2
        obtain ⟨n1, n2⟩ := hnew e.2 l0 hv
        have nl : l0 ≠ l := ne_of_none g1 hl
        have g1' : upd H' l (.lst []) l0 = some (.lst vs0) := by rw [upd_ne nl]; exact g1
        have lvs : vs0.length ≤ i := by
          have z := Paired.length g2
          have z2 : (onesOf (En.take i) e.2).length ≤ (En.take i).length := by
            unfold onesOf
            rw [List.length_map]
            exact List.length_filter_le _ _
          rw [List.length_take] at z2
          omega
        refine ⟨.inl ⟨rfl, _, SqL.of g1'⟩, _, rfl, l0, vs0, .ref p, rfl, rfl, g1', Nat.lt_of_le_of_lt (by omega : vs0.length ≤ 1000) (by decide), ?_⟩
        have fr2 : Fr Tb [] H (upd (upd H' l (.lst [])) l0 (.lst (vs0 ++ [.ref p]))) := frl.lstw (.inl n1) g1'
        have keepN : ∀ a (n : Nm), NmAt H' a n → NmAt (upd (upd H' l (.lst [])) l0 (.lst (vs0 ++ [.ref p]))) a n := fun a n z => by
          unfold NmAt at z ⊢
          rw [upd_ne (ne_of z g1 (by intro y; cases y)), upd_ne (ne_of_none z hl)]
          exact z
        refine ⟨_, _, rfl, fr2, hw0, kvs, by rw [upd_ne n2.symm, upd_ne nfl]; exact hd, by rw [List.length_take] at hkl ⊢; omega, fun n => ?_, hnew, happ⟩
        rw [take_snoc he', onesOf_snoc]
        by_cases hn : e.2 = n
        · subst hn
          rw [if_pos rfl, hv]
          exact ⟨l0, _, rfl, upd_same, Paired.snoc ⟨p, rfl, keepN _ _ h2'⟩ (g2.fr keepN)⟩
        · rw [if_neg hn]
          have hr3 := hrow n
          cases ev : valV kvs (nk n) with
          | none => rw [ev] at hr3; exact hr3
          | some v =>
            rw [ev] at hr3
            obtain ⟨l1, vs1, rfl, k1, k2⟩ := hr3
            have nl1 : l1 ≠ l0 := fun z => by
              subst z
              exact hn (happ _ _ _ hv ev)
            exact ⟨l1, vs1, rfl, by rw [upd_ne nl1, upd_ne (ne_of_none k1 hl)]; exact k1, k2.fr keepN⟩
      · -- a new key
        have hdl : upd H' l (.lst []) fw = some (.dT kvs) := by rw [upd_ne nfl]; exact hd
        have g1' : upd (upd H' l (.lst [])) fw (.dT (putK kvs (nk e.2) (.ref l))) l = some (.lst []) := by rw [upd_ne nfl.symm, upd_same]
        refine ⟨.inl ⟨rfl, _, SqL.of g1'⟩, _, rfl, l, [], .ref p, rfl, rfl, g1', by decide, ?_⟩
        have fr2 : Fr Tb [] H (upd (upd (upd H' l (.lst [])) fw (.dT (putK kvs (nk e.2) (.ref l)))) l (.lst ([] ++ [.ref p]))) := (frl.dTw (.inl hw0) hdl).lstw (.inl hl0) g1'
        have keepN : ∀ a (n : Nm), NmAt H' a n → NmAt (upd (upd (upd H' l (.lst [])) fw (.dT (putK kvs (nk e.2) (.ref l)))) l (.lst ([] ++ [.ref p]))) a n := fun a n z => by
          unfold NmAt at z ⊢
          rw [upd_ne (ne_of_none z hl), upd_ne (ne_of z hd (by intro y; cases y)), upd_ne (ne_of_none z hl)]
          exact z
        refine ⟨_, _, rfl, fr2, hw0, putK kvs (nk e.2) (.ref l), by rw [upd_ne nfl, upd_same], ?_, fun n => ?_, fun n l1 ev => ?_, fun n m l1 e1 e2 => ?_⟩
        · have z := len_put_le kvs (nk e.2) (.ref l)
          rw [List.length_take] at hkl ⊢
          omega
        · rw [take_snoc he', onesOf_snoc, valV_put]
          by_cases hn : e.2 = n
          · subst hn
            rw [if_pos rfl, if_pos rfl]
            have hr2 := hrow e.2
            rw [hv] at hr2
            have hr2 : onesOf (En.take i) e.2 = [] := hr2
            rw [hr2]
            exact ⟨l, _, rfl, upd_same, .cons ⟨p, rfl, keepN _ _ h2'⟩ .nil⟩
          · rw [if_neg hn, if_neg fun z => hn (nk_inj z).symm]
            have hr3 := hrow n
            cases ev : valV kvs (nk n) with
            | none => rw [ev] at hr3; exact hr3
            | some v =>
              rw [ev] at hr3
              obtain ⟨l1, vs1, rfl, k1, k2⟩ := hr3
              exact ⟨l1, vs1, rfl, by rw [upd_ne (ne_of_none k1 hl), upd_ne (ne_of k1 hd (by intro y; cases y)), upd_ne (ne_of_none k1 hl)]; exact k1, k2.fr keepN⟩
        · rw [valV_put] at ev
          split at ev
          · cases ev
            exact ⟨hl0, nfl.symm⟩
          · exact hnew n l1 ev
        · have fresh : ∀ n, valV kvs (nk n) ≠ some (.ref l) := fun n z => by
            have hr3 := hrow n
            rw [z] at hr3
            obtain ⟨l1, vs1, e, k1, k2⟩ := hr3
            cases e
            rw [hl] at k1
            cases k1
          rw [valV_put] at e1 e2
          split at e1 <;> split at e2
          · rename_i z1 z2
            exact (nk_inj z1).trans (nk_inj z2).symm
          · cases e1
            exact absurd e2 (fresh m)
          · cases e2
            exact absurd e1 (fresh n)
          · exact happ n m l1 e1 e2
    · rintro σ H' ⟨v1, v2, rfl, fr, hw0, kvs, hd, hkl, hrow, _, _⟩
      refine ⟨_, rfl, k H' fw fr hw0 ⟨kvs, hd, fun n => ?_⟩⟩
      have z := hrow n
      rw [show es.length = En.length from Paired.length hE, List.take_length] at z
      exact z
/-! ### is_let -/
/-- a list or tuple of numbers -/
def Sq2 (H : Hp) (a : Addr) (d : List Nat) : Prop := H a = some (.lst (nIs d)) ∨ H a = some (.tup (nIs d))
theorem Sq2.fr {T : List (Addr × Str)} {H H' : Hp} {a : Addr} {d : List Nat} (h : Sq2 H a d) (f : Fr T [] H H') : Sq2 H' a d := by
  rcases h with h | h
  · exact .inl (f.lst0 h)
  · exact .inr (f.tup0 h)
theorem ix2 {K : PySem.W.Frag} {H : Hp} {a : Addr} {d : List Nat} {t : Nat} {Q : VK} (h : Sq2 H a d) (ht : t < d.length) (q : Q (nI (at0 d t)) H) : rIxL K (.ref a) (nI t) H Q ∨ rIxT K (.ref a) (nI t) H Q := by
  rcases h with h | h
  · exact .inl ⟨a, _, _, _, rfl, rfl, SqL.of h, atI_nIs ht, q⟩
  · exact .inr ⟨a, _, _, _, rfl, rfl, SqT.of h, atI_nIs ht, q⟩
def EIn (E : List En) : Prop := ∀ e ∈ E, e.1.1 < 4
def spIsLet (Tb : List (Addr × Str)) : Sp := fun vs H Q _ => ∃ wa da d t E, vs = [.ref wa, .ref da, nI t] ∧ WaitsAt H wa E ∧ Sq2 H da d ∧ d.length = 4 ∧ t < 4 ∧ EIn E ∧ E.length ≤ 1000 ∧ ∀ H', Fr Tb [] H H' → Q (.bl (freeB E d t)) H'
theorem sc_is_let : FnScope ["waits", "done", "thread", "name"] ["waits", "done", "thread"] (defScope (top 22)) := ⟨rfl, rfl, rfl, by decide +kernel, rfl, by decide +kernel, by decide +kernel⟩
theorem free_ones (E : List En) (d : List Nat) (t : Nat) : ((onesOf E (t, at0 d t)).map fun n => decide (n.2 < at0 d n.1)).all id = freeB E d t := by
  unfold onesOf freeB
  induction E with
  | nil => rfl
  | cons e E ih =>
    rw [List.all_cons, ← ih, List.filter_cons]
    by_cases h : e.2 = (t, at0 d t)
    · simp [h]
    · simp [h]
theorem ok_is_let (F : Fun K "is_let" "is_let" (top 22) f fd) (T : Txt mg) : FnOk P w K mg base CX0 1 f fd ["waits", "done", "thread"] (spIsLet Tb) := by
  refine F.ok sc_is_let (fun vs H Q E h => ?_) (fun cdv A outer s H vs Q E hr h => ?_)
  · obtain ⟨x, es, d, t, E, rfl, _⟩ := h
    rfl
  · obtain ⟨wa, da, d, t, En, rfl, ⟨kvs, hd, hrow⟩, hs, h4, ht, hE, hlen, k⟩ := h
    refine ⟨_, 
      (pss_one (ps_ret (pe_callB (crAll K rfl) (by rfl) T.f_all (by decide +kernel) (pa_cons (pe_lc (own := [("name", 3)]) (by rfl) sc_is_let.nd (piL K (pe_dget2 (hu_of hr) (pv 0) (pe_tup (pa_cons (pv 2) (pa_cons (pe_ix (ix2K K) (pv 1) (pv 2) (fun _ _ => rfl)) pa_nil))) (pe_lst pa_nil) ⟨by rfl, by rfl, by rfl, by rfl⟩)) (blkOk_by (by kernel_rfl)) (fun _ _ _ _ _ => (pg_name (i := 3) sc_is_let.nd rfl (by first | exact Or.inl rfl | exact Or.inr rfl))) (fun _ _ _ _ _ => pts_nil) (fun _ _ _ _ _ => (pe_cmpR op_gt (pe_ix (ix2K K) (pv 1) (pe_ix (ixT K) (pv 3) pe_int (fun _ _ => rfl)) (fun _ _ => rfl)) (pe_ix (ixT K) (pv 3) pe_int (fun _ _ => rfl)) (nomark _)))) pa_nil))))
      , ?_⟩
    refine ⟨_, rfl, wa, rfl, .inr ⟨kvs, .inl hd⟩, _, rfl, _, rfl, _, rfl, ix2 hs (by omega) ?_⟩
    refine ⟨by show 2 ≤ sizeLine; decide, fun p hp => ?_⟩
    refine ⟨Nat.zero_le _, fun l hl => ?_⟩
    have hpl : p ≠ l := by
      rintro rfl
      rw [upd_same] at hl
      cases hl
    have hl0 : H l = none := by rw [upd_ne hpl.symm] at hl; exact hl
    have fr0 : Fr Tb [] H (upd (upd H p (.tup [nI t, nI (at0 d t)])) l (.lst [])) := (Fr.new hp).upd_new hl
    generalize hH1 : upd (upd H p (.tup [nI t, nI (at0 d t)])) l (.lst []) = H1 at fr0
    have hd1 : H1 wa = some (.dT kvs) := fr0.ext wa _ hd (by simp) fun _ z => (by cases z)
    have hp1 : H1 p = some (.tup ((nk (t, at0 d t)).map kV)) := by rw [← hH1, upd_ne hpl, upd_same]; rfl
    have hl1 : H1 l = some (.lst []) := by rw [← hH1, upd_same]
    have row := (hrow (t, at0 d t)).fr fr0
    -- the list of those for which the step waits
    obtain ⟨l', vs, el, g1, g2⟩ : ∃ l' vs, (valV kvs (nk (t, at0 d t))).getD (.ref l) = .ref l' ∧ H1 l' = some (.lst vs) ∧ Refs NmAt H1 vs (onesOf En (t, at0 d t)) := by
      cases ev : valV kvs (nk (t, at0 d t)) with
      | none =>
        rw [ev] at row
        have row : onesOf En (t, at0 d t) = [] := row
        rw [row]
        exact ⟨l, [], rfl, hl1, .nil⟩
      | some v =>
        rw [ev] at row
        obtain ⟨l1, vs1, rfl, k1, k2⟩ := row
        exact ⟨l1, vs1, rfl, k1, k2⟩
    refine ⟨_, DGet.t hd1 hp1, l', el, ⟨_, SqL.of g1⟩, fun D hD => lc_list (K := K) (a := l') (xs := vs) (fun i H' => H' = upd H1 D (.lst ((((onesOf En (t, at0 d t)).take i).map fun n => decide (n.2 < at0 d n.1)).map V.bl))) rfl (fun i H' _ e => by
      rw [e]
      exact SqL.of (by rw [upd_ne (ne_of_none g1 hD)]; exact g1)) ?_ ?_⟩
    · rintro i x H' hx rfl
      obtain ⟨n, hn, a, rfl, ha⟩ := Paired.at g2 hx
      have frD : Fr Tb [] H (upd H1 D (.lst ((((onesOf En (t, at0 d t)).take i).map fun n => decide (n.2 < at0 d n.1)).map V.bl))) := fr0.upd_new hD
      have ha' := ha.fr (Fr.new (T := Tb) (o := .lst ((((onesOf En (t, at0 d t)).take i).map fun n => decide (n.2 < at0 d n.1)).map V.bl)) hD)
      have n4 : n.1 < 4 := by
        obtain ⟨e, he, e1⟩ := List.mem_map.mp (List.mem_of_getElem? hn)
        rw [← e1]
        exact hE e (List.mem_filter.mp he).1
      have hs' := hs.fr frD
      refine ⟨rfl, yes_lc ?_⟩
      refine ⟨_, rfl, _, rfl, a, _, 0, _, rfl, rfl, SqT.of ha', rfl, ix2 hs' (by omega) ?_⟩
      refine ⟨_, rfl, a, _, 1, _, rfl, rfl, SqT.of ha', rfl, ?_⟩
      refine ⟨_, _, rfl, rfl, _, upd_same, ?_, ?_⟩
      · have hi := (List.getElem?_eq_some_iff.mp hn).1
        have hz : (onesOf En (t, at0 d t)).length ≤ 1000 := by
          unfold onesOf
          rw [List.length_map]
          exact Nat.le_trans (List.length_filter_le _ _) hlen
        rw [List.length_map, List.length_map, List.length_take]
        exact Nat.lt_of_le_of_lt (by omega : min i (onesOf En (t, at0 d t)).length ≤ 1000) (by decide)
      · rw [upd_upd, take_snoc hn, List.map_append, List.map_append]
        have e : decide ((n.2 : Int) < (at0 d n.1 : Int)) = decide (n.2 < at0 d n.1) := by
          by_cases z : n.2 < at0 d n.1
          · rw [decide_eq_true z, decide_eq_true (by omega)]
          · rw [decide_eq_false z, decide_eq_false (by omega)]
        show upd H1 D (.lst (_ ++ [V.bl (decide ((n.2 : Int) < (at0 d n.1 : Int)))])) = _
        rw [e]
        rfl
    · rintro H' rfl
      refine ⟨D, _, rfl, SqL.of upd_same, ?_⟩
      rw [show vs.length = (onesOf En (t, at0 d t)).length from Paired.length g2, List.take_length, free_ones]
      exact k _ (fr0.upd_new hD)
/-! ### let_threads -/
def spLets (Tb : List (Addr × Str)) : Sp := fun vs H Q _ => ∃ ca wa da c d E, vs = [.ref ca, .ref wa, .ref da] ∧ H ca = some (.tup (nIs c)) ∧ c.length = 4 ∧ WaitsAt H wa E ∧ Sq2 H da d ∧ d.length = 4 ∧ EIn E ∧ E.length ≤ 1000 ∧
  ∀ H' p, Fr Tb [] H H' → H p = none → H' p = some (.lst (nIs (lets c E d))) → Q (.ref p) H'
theorem sc_let_threads : FnScope ["counts", "waits", "done", "thread"] ["counts", "waits", "done"] (defScope (top 23)) := ⟨rfl, rfl, rfl, by decide +kernel, rfl, by decide +kernel, by decide +kernel⟩
theorem ok_let_threads (F : Fun K "let_threads" "let_threads" (top 23) f fd) (T : Txt mg) (C_is_let : Cl P w K mg base CX0 1 "is_let" (spIsLet Tb)) : FnOk P w K mg base CX0 2 f fd ["counts", "waits", "done"] (spLets Tb) := by
  refine F.ok sc_let_threads (fun vs H Q E h => ?_) (fun cdv A outer s H vs Q E hr h => ?_)
  · obtain ⟨x, es, da, c, d, E, rfl, _⟩ := h
    rfl
  · obtain ⟨ca, wa, da, c, d, En, rfl, hc, hc4, hw, hs, h4, hE, hlen, k⟩ := h
    refine ⟨_, 
      (pss_one (ps_ret (pe_lc (own := [("thread", 3)]) (by rfl) sc_let_threads.nd (pi_range1 (by rfl) T.f_range (pa_cons (gI (by rfl) T.c_MOST_THREADS) pa_nil)) (blkOk_by (by kernel_rfl)) (fun _ _ _ _ _ => (pg_name (i := 3) sc_let_threads.nd rfl (by first | exact Or.inl rfl | exact Or.inr rfl))) (fun _ _ _ _ _ => (pts_one (PW.pt (pw_and (pt_cmpR op_lt (pe_ix (ix2K K) (pv 2) (pv 3) (fun _ _ => rfl)) (pe_ix (ixT K) (pv 0) (pv 3) (fun _ _ => rfl)) (nomark _)) (pw_and1 (pt_val (cl0 C_is_let hr (by decide) (by rfl) (pa_cons (pv 1) (pa_cons (pv 2) (pa_cons (pv 3) pa_nil)))))))))) (fun _ _ _ _ _ => (pv 3)))))
      , ?_⟩
    refine ⟨4, rfl, by decide, by decide, fun D hD => lc_range (lo := 0) (n := 4) (fun i H' => Fr Tb [] H H' ∧ H' D = some (.lst (nIs (((List.range 4).take i).filter fun t => decide (at0 d t < at0 c t) && freeB En d t)))) ⟨Fr.new hD, upd_same⟩ ?_ ?_⟩
    · rintro i H' hi ⟨fr, hL⟩
      have hs' := hs.fr fr
      have hc' := fr.tup0 hc
      have take1 : (List.range 4).take (i + 1) = (List.range 4).take i ++ [i] := take_snoc (List.getElem?_range hi)
      refine ⟨rfl, ?_⟩
      have ev : V.int (0 + (i : Int)) = nI i := by rw [Int.zero_add]
      rw [ev]
      refine ⟨_, rfl, _, rfl, ix2 hs' (by omega) ?_⟩
      refine ⟨_, rfl, _, rfl, ca, _, _, _, rfl, rfl, SqT.of hc', atI_nIs (by omega), ?_⟩
      refine ⟨_, _, rfl, rfl, _, rfl, ?_⟩
      have e : decide ((at0 d i : Int) < (at0 c i : Int)) = decide (at0 d i < at0 c i) := by
        by_cases z : at0 d i < at0 c i
        · rw [decide_eq_true z, decide_eq_true (by omega)]
        · rw [decide_eq_false z, decide_eq_false (by omega)]
      rw [e]
      have small : ∀ l : List Nat, (nIs (((List.range 4).take i).filter fun t => decide (at0 d t < at0 c t) && freeB En d t)).length < sizeLine := fun _ => by
        rw [List.length_map]
        refine Nat.lt_of_le_of_lt (List.length_filter_le _ _) ?_
        rw [List.length_take, List.length_range]
        exact Nat.lt_of_le_of_lt (Nat.min_le_right _ _) (by decide)
      cases hlt : decide (at0 d i < at0 c i) with
      | false =>
        refine iteF (iteF ⟨fr, ?_⟩)
        rw [take1, List.filter_append, hL]
        simp [hlt]
      | true =>
        refine iteT ⟨_, rfl, _, rfl, _, rfl, wa, da, d, i, En, rfl, hw.fr fr, hs', h4, hi, hE, hlen, fun H2 fr2 => ⟨_, rfl, ?_⟩⟩
        have fr3 := fr.trans fr2
        have hL2 := fr2.lst0 hL
        cases hfr : freeB En d i with
        | false =>
          refine iteF ⟨fr3, ?_⟩
          rw [take1, List.filter_append, hL2]
          simp [hlt, hfr]
        | true =>
          refine iteT ⟨_, rfl, _, hL2, small [], fr3.lstw (.inl hD) hL2, ?_⟩
          rw [upd_same, take1, List.filter_append]
          simp [hlt, hfr]
    · rintro H' ⟨fr, hL⟩
      exact k H' D fr hD hL
/-! ### woven -/
def spWoven (Tb : List (Addr × Str)) : Sp := fun vs H Q _ => ∃ ca wa da c d E, vs = [.ref ca, .ref wa, .ref da] ∧ H ca = some (.tup (nIs c)) ∧ Good c E ∧ WaitsAt H wa E ∧ Sq2 H da d ∧ Le d c ∧ EIn E ∧ E.length ≤ 1000 ∧ c.sum ≤ 100000 ∧
  ∀ H' p, Fr Tb [] H H' → H p = none → H' p = some (.lst (nIs (wv c E (rem c d) d))) → Q (.ref p) H'
theorem sc_woven : FnScope ["counts", "waits", "done", "here", "found", "some"] ["counts", "waits", "done"] (defScope (top 24)) := ⟨rfl, rfl, rfl, by decide +kernel, rfl, by decide +kernel, by decide +kernel⟩
/-- some != [] -/
theorem ne_nil_read {K : PySem.W.Frag} {H : Hp} {a b : Addr} {l : List Nat} {Q : VK} (ha : H a = some (.lst (nIs l))) (hb : H b = some (.lst [])) (q : Q (.bl (!l.isEmpty)) H) : rNeD K (.ref a) (.ref b) H Q := by
  refine ⟨.list (nD l), .list (nD []), .lst (SqL.of ha) (dpN l), .lst (SqL.of hb) .nil, shapedL l, shapedL [], ?_⟩
  have e : PyData.eqv (.list (nD l)) (.list (nD [])) = l.isEmpty := by
    rw [eqvL]
    cases l <;> simp
  rw [e]
  exact q
theorem atI_zero {α : Type} {x : α} {xs : List α} : atI (x :: xs) 0 = some x := atI_nat (j := 0) rfl
theorem nIs_set (d : List Nat) (t n : Nat) : (nIs d).set t (nI n) = nIs (d.set t n) := by simp [nIs]
theorem ok_woven (F : Fun K "woven" "woven" (top 24) f fd) (T : Txt mg) (C_let_threads : Cl P w K mg base CX0 2 "let_threads" (spLets Tb)) : FnOk P w K mg base CX0 3 f fd ["counts", "waits", "done"] (spWoven Tb) := by
  refine F.ok sc_woven (fun vs H Q E h => ?_) (fun cdv A outer s H vs Q E hr h => ?_)
  · obtain ⟨x, es, da, c, d, E, rfl, _⟩ := h
    rfl
  · obtain ⟨ca, wa, da, c, d, En, rfl, hc, g, hw, hs, hle, hE, hlen, hsum, k⟩ := h
    refine ⟨_, 
      (pss_cons (ps_par (i := 3) (j := 4) (by rfl) sc_woven.nd rfl rfl (by decide) rfl rfl (pa_cons (pe_callTy (crListOf K) (by rfl) T.f_list (by decide +kernel) (pa_cons (pv 2) pa_nil)) (pa_cons (pe_lst pa_nil) pa_nil)) (by rfl))
      (pss_cons (ps_set (i := 5) sc_woven.nd rfl (by first | exact Or.inl rfl | exact Or.inr rfl) (cl0 C_let_threads hr (by decide) (by rfl) (pa_cons (pv 0) (pa_cons (pv 1) (pa_cons (pv 3) pa_nil)))))
      (pss_cons (ps_while PassesOwn.never (pt_cmpR (opNe K hr.units) (pv 5) (pe_lst pa_nil) (nomark _))
      (pss_cons (ps_expr (peBm K PySem.F.plainAttrs_list PySem.F.slot_list_append PySem.F.type_list_append mt_append (pv 4) (pa_cons (pe_ix (ixL K) (pv 5) pe_int (fun _ _ => rfl)) pa_nil)))
      (pss_cons (ps_augS (pv 3) (pe_ix (ixL K) (pv 5) pe_int (fun _ _ => rfl)) (getL K) pe_int ip_add set_list)
      (pss_one (ps_set (i := 5) sc_woven.nd rfl (by first | exact Or.inl rfl | exact Or.inr rfl) (cl0 C_let_threads hr (by decide) (by rfl) (pa_cons (pv 0) (pa_cons (pv 1) (pa_cons (pv 3) pa_nil)))))))))
      (pss_one (ps_ret (pv 4))))))
      , ?_⟩
    have hq : SqL K H da (nIs d) ∨ SqT K H da (nIs d) := by
      rcases hs with h | h
      · exact .inl (SqL.of h)
      · exact .inr (SqT.of h)
    refine ⟨_, rfl, da, _, rfl, hq, fun p hp => ⟨Nat.zero_le _, fun l hl => ⟨_, _, rfl, ?_⟩⟩⟩
    have hpl : p ≠ l := by
      rintro rfl
      rw [upd_same] at hl
      cases hl
    have hl0 : H l = none := by rw [upd_ne hpl.symm] at hl; exact hl
    have fr0 : Fr Tb [] H (upd (upd H p (.lst (nIs d))) l (.lst [])) := (Fr.new hp).upd_new hl
    have hp1 : upd (upd H p (.lst (nIs d))) l (.lst []) p = some (.lst (nIs d)) := by rw [upd_ne hpl, upd_same]
    have hl1 : upd (upd H p (.lst (nIs d))) l (.lst []) l = some (.lst []) := upd_same
    generalize upd (upd H p (.lst (nIs d))) l (.lst []) = H1 at fr0 hp1 hl1
    refine ⟨_, rfl, _, rfl, _, rfl, ca, wa, p, c, d, En, rfl, fr0.tup0 hc, g.1, hw.fr fr0, .inl hp1, hle.1, hE, hlen, fun H2 sm fr1 hsm0 hsm => ?_⟩
    -- the loop: here = d', found = what was woven so far; m: steps left
    refine ⟨fun m σ H' => ∃ (sm : Addr) (d' w' : List Nat), σ = [some (.ref ca), some (.ref wa), some (.ref da), some (.ref p), some (.ref l), some (.ref sm)] ∧ Fr Tb [] H H' ∧ H' p = some (.lst (nIs d')) ∧ H' l = some (.lst (nIs w')) ∧ H' sm = some (.lst (nIs (lets c En d'))) ∧ sm ≠ l ∧
      Le d' c ∧ rem c d' = m ∧ w'.length + m ≤ 100000 ∧ w' ++ wv c En m d' = wv c En (rem c d) d, ⟨rem c d, sm, d, [], rfl, fr0.trans fr1, fr1.lst0 hp1, fr1.lst0 hl1, hsm, fun z => (by rw [z, hl1] at hsm0; cases hsm0), hle, rfl, by unfold rem; simp; omega, rfl⟩, ?_⟩
    rintro m σ H' ⟨sm, d', w', rfl, fr, hp2, hl2, hsm2, hsml, hle', hm, hwl, hwv⟩
    refine ⟨_, rfl, Nat.zero_le _, fun b hb => ?_⟩
    have frb : Fr Tb [] H (upd H' b (.lst [])) := fr.upd_new hb
    have hp3 : upd H' b (.lst []) p = some (.lst (nIs d')) := by rw [upd_ne (ne_of_none hp2 hb)]; exact hp2
    have hl3 : upd H' b (.lst []) l = some (.lst (nIs w')) := by rw [upd_ne (ne_of_none hl2 hb)]; exact hl2
    have hsm3 : upd H' b (.lst []) sm = some (.lst (nIs (lets c En d'))) := by rw [upd_ne (ne_of_none hsm2 hb)]; exact hsm2
    refine ne_nil_read hsm3 upd_same ⟨_, rfl, ?_⟩
    generalize upd H' b (.lst []) = H3 at frb hp3 hl3 hsm3
    cases m with
    | zero =>
      have e := rem_zero hle' hm
      have en : lets c En d' = [] := by
        rw [e]
        refine List.eq_nil_iff_forall_not_mem.mpr fun t ht => ?_
        have := (mem_lets.mp ht).2.1
        omega
      rw [en]
      refine iteF ⟨_, rfl, k H3 l frb hl0 ?_⟩
      rw [hl3, ← hwv]
      show _ = some (HO.lst (nIs (w' ++ [])))
      rw [List.append_nil]
    | succ m =>
      have hne : d' ≠ c := fun e => by rw [e, rem_self] at hm; cases hm
      have hpos := g.progress hle' hne
      cases el : lets c En d' with
      | nil => exact absurd el hpos
      | cons t ts =>
        have ht : t ∈ lets c En d' := by rw [el]; exact List.mem_cons_self
        obtain ⟨t4, tlt, _⟩ := mem_lets.mp ht
        rw [el] at hsm3
        refine iteT ⟨fun σ' H' => ∃ (sm : Addr) (d2 w2 : List Nat), σ' = [some (.ref ca), some (.ref wa), some (.ref da), some (.ref p), some (.ref l), some (.ref sm)] ∧ Fr Tb [] H H' ∧ H' p = some (.lst (nIs d2)) ∧ H' l = some (.lst (nIs w2)) ∧ H' sm = some (.lst (nIs (lets c En d2))) ∧ sm ≠ l ∧
          Le d2 c ∧ rem c d2 = m ∧ w2.length + m ≤ 100000 ∧ w2 ++ wv c En m d2 = wv c En (rem c d) d, fun σ' H' h => ⟨m, Nat.lt_succ_self m, h⟩, ?_⟩
        -- found.append(some[0])
        have hw3 := hw.fr frb
        have hc3 := frb.tup0 hc
        have hlp : l ≠ p := hpl.symm
        refine ⟨_, rfl, .inl ⟨rfl, _, SqL.of hl3⟩, _, rfl, sm, _, 0, nI t, rfl, rfl, SqL.of hsm3, atI_zero, l, _, _, rfl, rfl, hl3, (by rw [List.length_map]; exact Nat.lt_of_le_of_lt (by omega : w'.length ≤ 100000) (by decide)), ?_⟩
        have fr4 := frb.lstw (o := .lst (nIs w' ++ [nI t])) (.inl hl0) hl3
        have e4 : nIs w' ++ [nI t] = nIs (w' ++ [t]) := by simp [nIs]
        rw [e4] at fr4 ⊢
        have hl4 : upd H3 l (.lst (nIs (w' ++ [t]))) l = some (.lst (nIs (w' ++ [t]))) := upd_same
        have hp4 : upd H3 l (.lst (nIs (w' ++ [t]))) p = some (.lst (nIs d')) := by rw [upd_ne hpl]; exact hp3
        -- the list of those let may be read though l was written: it is another one, or it does not matter
        have nsl : sm ≠ l := hsml
        have hsm4 : upd H3 l (.lst (nIs (w' ++ [t]))) sm = some (.lst (nIs (t :: ts))) := by rw [upd_ne nsl]; exact hsm3
        generalize upd H3 l (.lst (nIs (w' ++ [t]))) = H4 at fr4 hl4 hp4 hsm4
        -- here[some[0]] += 1
        refine ⟨_, rfl, _, rfl, sm, _, 0, nI t, rfl, rfl, SqL.of hsm4, atI_zero, p, _, _, _, rfl, rfl, SqL.of hp4, by omega, (by
          show (nIs d')[t]? = some (nI (at0 d' t))
          have z := atI_nIs (c := d') (t := t) (by rw [hle'.1]; exact t4)
          rw [List.getElem?_map, List.getElem?_eq_getElem (by rw [hle'.1]; exact t4)]
          unfold at0
          rw [List.getD_eq_getElem?_getD, List.getElem?_eq_getElem (by rw [hle'.1]; exact t4)]
          rfl), _, _, rfl, rfl, p, _, _, t, rfl, rfl, hp4, ?_, ?_⟩
        · rw [List.length_map, hle'.1]
          unfold ixN
          rw [if_pos (by omega), if_pos (by omega)]
          rfl
        have e5 : (nIs d').set t (V.int ((at0 d' t : Int) + 1)) = nIs (bump d' t) := by
          rw [show V.int ((at0 d' t : Int) + 1) = nI (at0 d' t + 1) by simp [nI], nIs_set]
          rfl
        rw [e5]
        have fr5 := fr4.lstw (o := .lst (nIs (bump d' t))) (.inl hp) hp4
        have hp5 : upd H4 p (.lst (nIs (bump d' t))) p = some (.lst (nIs (bump d' t))) := upd_same
        have hl5 : upd H4 p (.lst (nIs (bump d' t))) l = some (.lst (nIs (w' ++ [t]))) := by rw [upd_ne hlp]; exact hl4
        generalize upd H4 p (.lst (nIs (bump d' t))) = H5 at fr5 hp5 hl5
        have hle5 := hle'.lets ht
        refine ⟨_, rfl, _, rfl, _, rfl, ca, wa, p, c, bump d' t, En, rfl, fr5.tup0 hc, g.1, hw.fr fr5, .inl hp5, hle5.1, hE, hlen, fun H6 sm6 fr6 hsm60 hsm6 => ?_⟩
        refine ⟨sm6, bump d' t, w' ++ [t], rfl, fr5.trans fr6, fr6.lst0 hp5, fr6.lst0 hl5, hsm6, fun z => (by rw [z, hl5] at hsm60; cases hsm60), hle5, rem_bump hle' ht hm, (by rw [List.length_append, List.length_singleton]; omega), ?_⟩
        rw [← hwv, List.append_assoc]
        congr 1
        show [t] ++ wv c En m (bump d' t) = wv c En (m + 1) d'
        conv => rhs; unfold wv
        rw [el]
        rfl
end
end K81
set_option maxHeartbeats 2000000
namespace K81
open PySem PySem.Spec PyProof.Rows L2 LamX K81M StX RZ
/-! ### ledgers -/
def enD (e : En) : PyData := .tuple [.tuple [.int (e.1.1 : Int), .int (e.1.2 : Int)], .tuple [.int (e.2.1 : Int), .int (e.2.2 : Int)]]
theorem EnAt.dp {K : PySem.W.Frag} {H : Hp} {a : Addr} {e : En} (h : EnAt H a e) : Dp K H (.ref a) (enD e) := by
  obtain ⟨p, q, h1, h2, h3⟩ := h
  exact .tup (SqT.of h1) (.cons (.tup (SqT.of h2) (.cons (.int _) (.cons (.int _) .nil))) (.cons (.tup (SqT.of h3) (.cons (.int _) (.cons (.int _) .nil))) .nil))
theorem enD_alike (a b : En) : PySem.W.alike (enD a) (enD b) = true := by simp [enD, PySem.W.alike, PySem.W.alikeAll]
theorem enD_depth (a : En) : (enD a).depth ≤ 60 := by simp [enD, PyData.depth, PyData.depthAll]
def LtE (a b : En) : Prop := PySem.W.dataLt (enD a) (enD b) = true
structure LedOk (c : List Nat) (E : List En) : Prop where
  len : c.length = 4
  small : ∀ n ∈ c, n ≤ 2000
  ents : EntsIn c E
  apart : ∀ e ∈ E, e.1.1 ≠ e.2.1
  sorted : ∀ i a b, E[i]? = some a → E[i + 1]? = some b → LtE a b
  good : Good c E
  few : E.length ≤ 1000
theorem LedOk.ein {c : List Nat} {E : List En} (h : LedOk c E) : EIn E := fun e he => (h.ents e he).1.1
theorem LedOk.sum {c : List Nat} {E : List En} (h : LedOk c E) : c.sum ≤ 100000 := by
  obtain ⟨a, b, e, f, rfl⟩ := len4 h.len
  have h1 := h.small a (by simp)
  have h2 := h.small b (by simp)
  have h3 := h.small e (by simp)
  have h4 := h.small f (by simp)
  simp
  omega
/-- what is no ledger, of the law's wrong arguments -/
def Odd (H : Hp) (x : V) : Prop := (∃ t, TyS H x t ∧ t ≠ "tuple") ∨ (∃ a, x = .ref a ∧ H a = some (.tup [])) ∨ ∃ a ca c, x = .ref a ∧ H a = some (.tup [.ref ca, .non]) ∧ H ca = some (.tup (nIs c)) ∧ c.length = 4 ∧ ∀ n ∈ c, n ≤ 2000
theorem walk_zipT {K : PySem.W.Frag} {a b : Addr} {xs ys : List V} {n : Nat} (hn : n = min xs.length ys.length) : Walk (ItzT K a b) n (fun H => SqT K H a xs ∧ SqT K H b ys) (YPair (fun i => xs[i]?) (fun i => ys[i]?)) := by
  subst hn
  refine ⟨fun i _ hi q => ?_, fun _ q => ⟨xs, ys, q.1, q.2, by omega⟩, fun i H v H' _ q y => ?_⟩
  · have h1 : i < xs.length := by omega
    have h2 : i < ys.length := by omega
    exact ⟨xs, ys, xs[i], ys[i], q.1, q.2, by simp [h1], by simp [h2]⟩
  · obtain ⟨T, x, z, h1, h2, h3, h4, h5⟩ := y
    exact ⟨T, x, z, h1, h2, h3, h4 xs q.1, h5 ys q.2⟩
theorem castSum : ∀ c : List Nat, (c.map fun n : Nat => (n : Int)).sum = (c.sum : Int)
  | [] => rfl
  | n :: c => by
    rw [List.map_cons, List.sum_cons, List.sum_cons, castSum c]
    omega
theorem nIs_int (c : List Nat) : nIs c = (c.map fun n : Nat => (n : Int)).map V.int := by
  rw [List.map_map]
  rfl
theorem cut1 {xs : List V} : cutV xs (some 1) none = xs.drop 1 := by
  unfold cutV
  have e : HT.sIx xs.length 0 (some 1) = min 1 xs.length := HT.sIx_nat _ _ 1
  rw [e]
  show (xs.drop (min 1 xs.length)).take (xs.length - min 1 xs.length) = xs.drop 1
  cases xs with
  | nil => rfl
  | cons x xs =>
    rw [List.length_cons, Nat.min_eq_left (by omega)]
    simp
theorem slice1 {K : PySem.W.Frag} {T : List (Addr × Str)} {H : Hp} {a : Addr} {vs : List V} {Q : VK} (hv : H a = some (.tup vs)) (q : ∀ b H3, Fr T [] H H3 → H3 b = some (.tup (vs.drop 1)) → Q (.ref b) H3) : rSlA K (.ref a) (some 1) none H Q := by
  refine ⟨a, vs, rfl, SqT.of hv, fun hw => ?_, fun hw p hp => ?_⟩
  · have e : vs.drop 1 = vs := by
      have z : min 1 vs.length = 0 := (HT.sIx_nat vs.length 0 1).symm.trans hw.1
      have z2 : vs.length = 0 := by omega
      rw [List.length_eq_zero_iff] at z2
      rw [z2]; rfl
    exact q a H .refl (by rw [e]; exact hv)
  · rw [cut1]
    exact q p _ (Fr.new hp) upd_same
section
variable {P : Program} {w : World} {K : PySem.W.Frag} {mg : Str → Option Value} {base : Heap} {Tb : List (Addr × Str)} {f : Addr} {fd : FuncData}
def spIsLedger (Tb : List (Addr × Str)) : Sp := fun vs H Q _ => ∃ x, vs = [x] ∧ ((∃ a c E, x = .ref a ∧ LedAt H a c E ∧ LedOk c E ∧ ∀ H', Fr Tb [] H H' → Q (.bl true) H') ∨ (Odd H x ∧ ∀ H', Fr Tb [] H H' → Q (.bl false) H'))
theorem sc_is_ledger : FnScope ["thing", "item", "one", "other"] ["thing"] (defScope (top 25)) := ⟨rfl, rfl, rfl, by decide +kernel, rfl, by decide +kernel, by decide +kernel⟩
theorem ok_is_ledger (F : Fun K "is_ledger" "is_ledger" (top 25) f fd) (T : Txt mg) (C_is_tuple : Cl P w K mg base CX0 1 "is_tuple" spTuple) (C_is_count_row : Cl P w K mg base CX0 3 "is_count_row" (spCountRow Tb))
    (C_is_ledger_entry : Cl P w K mg base CX0 4 "is_ledger_entry" spLedgerEntry) (C_woven : Cl P w K mg base CX0 3 "woven" (spWoven Tb)) (C_waits_of : Cl P w K mg base CX0 1 "waits_of" (spWaits Tb)) :
    FnOk P w K mg base CX0 5 f fd ["thing"] (spIsLedger Tb) := by
  refine F.ok sc_is_ledger (fun vs H Q E h => ?_) (fun cdv A outer s H vs Q E hr h => ?_)
  · obtain ⟨x, rfl, _⟩ := h
    rfl
  · obtain ⟨x, rfl, h⟩ := h
    refine ⟨_, 
      (pss_cons (ps_if (PW.pt (pw_or (pt_not (pt_val (cl0 C_is_tuple hr (by decide) (by rfl) (pa_cons (pv 0) (pa_cons pe_int pa_nil))))) (pw_or (pt_not (pt_val (cl0 C_is_count_row hr (by decide) (by rfl) (pa_cons (pe_ix (ixT K) (pv 0) pe_int (fun _ _ => rfl)) pa_nil)))) (pw_or1 (pt_not (pt_val (pe_callB ck_isi (by rfl) T.f_isinstance (by decide +kernel) (pa_cons (pe_ix (ixT K) (pv 0) pe_int (fun _ _ => rfl)) (pa_cons (pe_bltn (by rfl) T.f_tuple (by decide +kernel) (v := .ty "tuple") rfl) pa_nil)))))))))
      (pss_one (ps_ret pe_bl)) pss_nil)
      (pss_cons (ps_if (pt_not (pt_val (pe_callB (crAll K rfl) (by rfl) T.f_all (by decide +kernel) (pa_cons (pe_lc (own := [("item", 1)]) (by rfl) sc_is_ledger.nd (piT K (pe_ix (ixT K) (pv 0) pe_int (fun _ _ => rfl))) (blkOk_by (by kernel_rfl)) (fun _ _ _ _ _ => (pg_name (i := 1) sc_is_ledger.nd rfl (by first | exact Or.inl rfl | exact Or.inr rfl))) (fun _ _ _ _ _ => pts_nil) (fun _ _ _ _ _ => (cl0 C_is_ledger_entry hr (by decide) (by rfl) (pa_cons (pe_ix (ixT K) (pv 0) pe_int (fun _ _ => rfl)) (pa_cons (pv 1) pa_nil))))) pa_nil))))
      (pss_one (ps_ret pe_bl)) pss_nil)
      (pss_cons (ps_if (pt_not (pt_val (pe_callB (crAll K rfl) (by rfl) T.f_all (by decide +kernel) (pa_cons (pe_lc (own := [("one", 2), ("other", 3)]) (by rfl) sc_is_ledger.nd (pi_zipA (by rfl) T.f_zip (pa_cons (pe_ix (ixT K) (pv 0) pe_int (fun _ _ => rfl)) (pa_cons (pe_slice (slT K) (pe_ix (ixT K) (pv 0) pe_int (fun _ _ => rfl)) (po_some pe_int) po_none) pa_nil))) (blkOk_by (by kernel_rfl)) (fun _ _ _ _ _ => (pgT (n := 2) K (by rfl) (pgs_cons (pg_name (i := 2) sc_is_ledger.nd rfl (by first | exact Or.inl rfl | exact Or.inr rfl)) (pgs_cons (pg_name (i := 3) sc_is_ledger.nd rfl (by first | exact Or.inl rfl | exact Or.inr rfl)) pgs_nil)))) (fun _ _ _ _ _ => pts_nil) (fun _ _ _ _ _ => (pe_cmpR (opLt K hr.units) (pv 2) (pv 3) (nomark _)))) pa_nil))))
      (pss_one (ps_ret pe_bl)) pss_nil)
      (pss_one (ps_ret (pe_cmpR op_eq (pe_callB (crLen K) (by rfl) T.f_len PySem.boot_len (pa_cons (cl0 C_woven hr (by decide) (by rfl) (pa_cons (pe_ix (ixT K) (pv 0) pe_int (fun _ _ => rfl)) (pa_cons (cl0 C_waits_of hr (by decide) (by rfl) (pa_cons (pe_ix (ixT K) (pv 0) pe_int (fun _ _ => rfl)) pa_nil)) (pa_cons (pe_op (opRep K) (pe_tup (pa_cons pe_int pa_nil)) (gI (by rfl) T.c_MOST_THREADS)) pa_nil)))) pa_nil)) (pe_callB (crSumT K rfl) (by rfl) T.f_sum (by decide +kernel) (pa_cons (pe_ix (ixT K) (pv 0) pe_int (fun _ _ => rfl)) pa_nil)) (nomark _)))))))
      , ?_⟩
    rcases h with ⟨a, c, En, rfl, ⟨ca, ea, vs, h1, h2, h3, h4⟩, ok, k⟩ | ⟨odd, k⟩
    · refine ⟨_, rfl, _, 2, rfl, .inl ⟨a, _, rfl, h1, _, rfl, ?_⟩⟩
      refine iteF ?_
      refine ⟨_, rfl, a, _, 0, _, rfl, rfl, SqT.of h1, rfl, ?_⟩
      refine ⟨ca, c, rfl, h2, ok.len, ok.small, fun H1 f1 => ⟨_, rfl, iteF ?_⟩⟩
      refine ⟨_, rfl, a, _, 1, _, rfl, rfl, SqT.of (f1.tup0 h1), rfl, ?_⟩
      refine ⟨_, _, "tuple", _, rfl, .tup (f1.tup0 h3), (TyS.tup (f1.tup0 h3)).kit_tuple, _, rfl, iteF ?_⟩
      -- all entries are entries
      refine ⟨_, rfl, a, _, 1, _, rfl, rfl, SqT.of (f1.tup0 h1), rfl, ea, rfl, ⟨_, SqT.of (f1.tup0 h3)⟩, fun D hD => lc_tup (K := K) (a := ea) (xs := vs) (fun i H' => H' = upd H1 D (.lst ((List.replicate i true).map V.bl))) rfl (fun i H' _ e => by
        rw [e]
        exact SqT.of (by rw [upd_ne (ne_of_none (f1.tup0 h3) hD)]; exact f1.tup0 h3)) ?_ ?_⟩
      · rintro i x H' hx rfl
        obtain ⟨e, he, ep, rfl, hep⟩ := Paired.at h4 hx
        have fD : Fr Tb [] H (upd H1 D (.lst ((List.replicate i true).map V.bl))) := f1.upd_new hD
        have hi := ok.ents e (List.mem_of_getElem? he)
        refine ⟨rfl, yes_lc ?_⟩
        refine ⟨_, rfl, a, _, 0, _, rfl, rfl, SqT.of (fD.tup0 h1), rfl, _, rfl, ?_⟩
        refine ⟨ca, ep, c, e, rfl, fD.tup0 h2, hep.fr fD, ok.len, hi.1, hi.2, ok.apart e (List.mem_of_getElem? he), _, upd_same, ?_, ?_⟩
        · have hi := (List.getElem?_eq_some_iff.mp he).1
          have := ok.few
          rw [List.length_map, List.length_replicate]
          exact Nat.lt_of_lt_of_le (by omega : i < 1000) (by decide)
        · rw [upd_upd, List.replicate_succ', List.map_append]
          rfl
      · rintro H' rfl
        refine ⟨D, List.replicate vs.length true, rfl, SqL.of upd_same, ?_⟩
        rw [all_true]
        have fD : Fr Tb [] H (upd H1 D (.lst ((List.replicate vs.length true).map V.bl))) := f1.upd_new hD
        generalize upd H1 D (.lst ((List.replicate vs.length true).map V.bl)) = H2 at fD
        refine ⟨_, rfl, iteF ?_⟩
        -- they ascend
        refine ⟨_, rfl, a, _, 1, _, rfl, rfl, SqT.of (fD.tup0 h1), rfl, ?_⟩
        refine ⟨_, rfl, a, _, 1, _, rfl, rfl, SqT.of (fD.tup0 h1), rfl, ?_⟩
        refine ⟨1, rfl, ?_⟩
        have hv2 := fD.tup0 h3
        delta tNoPart
        dsimp only
        refine slice1 (T := Tb) hv2 fun b H3 f3 hb => ?_
        have f03 := fD.trans f3
        refine ⟨ea, b, vs, vs.drop 1, rfl, .inr ⟨SqT.of (f03.tup0 h3), SqT.of hb, fun D hD => lc_it (walk_zipT (K := K) (a := ea) (b := b) (xs := vs) (ys := vs.drop 1) rfl) (fun i H' => Fr Tb [] H H' ∧ H' b = some (.tup (vs.drop 1)) ∧ H' D = some (.lst ((List.replicate i true).map V.bl)))
            ⟨f03.upd_new hD, by rw [upd_ne (ne_of_none hb hD)]; exact hb, upd_same⟩ (fun i H' _ q => ⟨SqT.of (q.1.tup0 h3), SqT.of q.2.1⟩) ?_ ?_⟩⟩
        · rintro i x H4 H5 hi ⟨f4, hb4, hD4⟩ ⟨T, y1, y2, rfl, hT, rfl, e1, e2⟩
          obtain ⟨u1, g1, p1, rfl, q1⟩ := Paired.at h4 e1
          have e2 : (vs.drop 1)[i]? = some y2 := e2
          rw [List.getElem?_drop] at e2
          obtain ⟨u2, g2, p2, rfl, q2⟩ := Paired.at h4 e2
          have f5 : Fr Tb [] H (upd H4 T (.tup [.ref p1, .ref p2])) := f4.upd_new hT
          have hlt := ok.sorted i u1 u2 g1 (by rw [Nat.add_comm]; exact g2)
          refine ⟨T, _, rfl, SqT.of upd_same, rfl, _, _, rfl, _, _, rfl, rfl, rfl, yes_lc ?_⟩
          refine ⟨_, rfl, _, rfl, enD u1, enD u2, (q1.fr f5).dp, (q2.fr f5).dp, enD_alike u1 u2, by simp [enD], enD_depth u1, ?_⟩
          rw [show PySem.W.dataLt (enD u1) (enD u2) = true from hlt]
          have hD5 : upd H4 T (.tup [.ref p1, .ref p2]) D = some (.lst ((List.replicate i true).map V.bl)) := by rw [upd_ne (ne_of_none hD4 hT)]; exact hD4
          refine ⟨_, hD5, ?_, f5.lstw (.inl (f03.free hD)) hD5, by rw [upd_ne (ne_of hb4 hD4 (by intro z; cases z)), upd_ne (ne_of_none hb4 hT)]; exact hb4, ?_⟩
          · have hl := (List.getElem?_eq_some_iff.mp g1).1
            have := ok.few
            rw [List.length_map, List.length_replicate]
            exact Nat.lt_of_lt_of_le (by omega : i < 1000) (by decide)
          · rw [upd_same, List.replicate_succ', List.map_append]
            rfl
        · rintro H' ⟨f', _, hD'⟩
          refine ⟨D, _, rfl, SqL.of hD', ?_⟩
          rw [all_true]
          refine ⟨_, rfl, iteF ?_⟩
          refine ⟨_, rfl, a, _, 0, _, rfl, rfl, SqT.of (f'.tup0 h1), rfl, ?_⟩
          refine ⟨_, rfl, a, _, 1, _, rfl, rfl, SqT.of (f'.tup0 h1), rfl, ?_⟩
          refine ⟨ea, vs, En, rfl, f'.tup0 h3, h4.fr (fun a x q => q.fr f'), ok.few, fun H6 wa f6 _ hw => ?_⟩
          have f7 := f'.trans f6
          refine ⟨by show 1 ≤ sizeLine; decide, fun p hp => ?_⟩
          refine ⟨p, 4, _, rfl, rfl, SqT.of upd_same, by simp, by decide, by decide, by decide, fun z hz => ?_⟩
          have f8 : Fr Tb [] H (upd H6 p (.tup [nI 0])) := f7.upd_new hp
          have f9 := f8.upd_new (o := .tup (nIs zero4)) hz
          refine ⟨ca, wa, z, c, zero4, En, rfl, f9.tup0 h2, ok.good, ?_, .inr upd_same, Le.zero ok.len, ok.ein, ok.few, ok.sum, fun H10 l f10 _ hl => ?_⟩
          · exact (hw.fr (Fr.new (T := Tb) hp)).fr (Fr.new (T := Tb) hz)
          refine ⟨l, _, rfl, .inl (SqL.of hl), ?_⟩
          have f11 := f9.trans f10
          refine ⟨_, rfl, a, _, 0, _, rfl, rfl, SqT.of (f11.tup0 h1), rfl, ?_⟩
          refine ⟨ca, c.map fun n : Nat => (n : Int), rfl, SqT.of (by rw [← nIs_int]; exact f11.tup0 h2), rfl, ?_⟩
          have e : (nIs (wv c En (rem c zero4) zero4)).length = c.sum := by
            rw [List.length_map, (wv_path ok.good (Le.zero ok.len)).length (Le.zero ok.len)]
            unfold rem zero4
            simp
          rw [e, castSum]
          rw [show decide (V.int (c.sum : Int) = V.int (c.sum : Int)) = true from decide_eq_true rfl]
          exact k _ f11
    · rcases odd with ⟨t, ty, hne⟩ | ⟨a, rfl, ha⟩ | ⟨a, ca, c, rfl, h1, h2, h4, hs⟩
      · exact ⟨_, rfl, _, 2, rfl, .inr ⟨t, ty, hne, _, rfl, iteT (k _ .refl)⟩⟩
      · exact ⟨_, rfl, _, 2, rfl, .inl ⟨a, _, rfl, ha, _, rfl, iteT (k _ .refl)⟩⟩
      · refine ⟨_, rfl, _, 2, rfl, .inl ⟨a, _, rfl, h1, _, rfl, ?_⟩⟩
        refine iteF ?_
        refine ⟨_, rfl, a, _, 0, _, rfl, rfl, SqT.of h1, rfl, ?_⟩
        refine ⟨ca, c, rfl, h2, h4, hs, fun H1 f1 => ⟨_, rfl, iteF ?_⟩⟩
        refine ⟨_, rfl, a, _, 1, _, rfl, rfl, SqT.of (f1.tup0 h1), rfl, ?_⟩
        exact ⟨_, _, "tuple", _, rfl, .non, TyS.non.kit_tuple (H := H1), _, rfl, iteT (k _ f1)⟩
end
end K81
set_option maxHeartbeats 2000000
/-! A caught exception kept as a value: told, its field read. -/
namespace K81
open PySem PySem.Spec PyProof.Rows L2 LamX K81M StX RZ
/-- an exception object of the class cls with the dict d, at a -/
def ExD (cls : Value) (d : Option Addr) (a : Addr) : HO := .ext fun h => ∃ (oe : Obj) (vs : Array Value), h.get? a = some oe ∧ Zc cls d oe ∧ oe.data = .fields vs
section
variable {X : Cx} {pins : List (Addr × Obj)} {σ : L2.St} {H : Hp} {s : Shared}
/-- a pinned object of fields becomes a tracked one -/
theorem Inv.track {a : Addr} {oe : Obj} {vs : Array Value} {cls : Value} {d : Option Addr} (I : Inv X ((a, oe) :: pins) σ H s) (hd : oe.data = .fields vs) (hz : Zc cls d oe) (n0 : X.s_0.heap.get? a = none) (np : ∀ p ∈ X.pn ++ pins, p.1 ≠ a) :
    Inv X pins σ (upd H a (ExD cls d a)) s := by
  obtain ⟨ha, na, nL, nF, _⟩ := I.pin (a, oe) (List.mem_append_right _ List.mem_cons_self)
  dsimp only at ha na nL nF
  have ne0 : ∀ b o, X.s_0.heap.get? b = some o → b ≠ a := fun b o e z => by
    rw [z, n0] at e
    cases e
  have sm : ∀ b u, H b = some u → b ≠ a := fun b u e => ne_of_none e na
  refine ⟨I.ok, I.os, I.bare, ⟨I.base.keep, I.base.slot, fun b o e n hq => ?_, I.base.there, fun b xs e => ?_, fun b o u e => ?_, fun b ps e => ?_⟩, I.loc, I.cell, ?_, fun x c e => ?_, fun p hp => ?_, fun b u e => ?_, I.len⟩
  · rw [upd_ne (ne0 b o e)]
    exact I.base.free b o e n hq
  · have q := I.base.tups b xs e
    rw [upd_ne (sm b _ q)]
    exact q
  · have q := I.base.frzs b o u e
    rw [upd_ne (sm b _ q)]
    exact q
  · obtain ⟨m, q⟩ := I.base.tbls b ps e
    exact ⟨m, by rw [upd_ne (sm b _ q)]; exact q⟩
  · rw [upd_ne (Ne.symm nL)]
    exact I.free
  · have hne : c ≠ a := fun z => by
      obtain ⟨v, o, ho, hc⟩ := I.cell x c e
      rw [z, ha] at ho
      cases ho
      rw [hd] at hc
      cases hc
    rw [upd_ne hne]
    exact I.freeC x c e
  · obtain ⟨e, n, ne, nf, dd⟩ := I.pin p (by
      rcases List.mem_append.mp hp with h | h
      · exact List.mem_append_left _ h
      · exact List.mem_append_right _ (List.mem_cons_of_mem _ h))
    exact ⟨e, by rw [upd_ne (np p hp)]; exact n, ne, nf, dd⟩
  · by_cases hb : b = a
    · subst hb
      rw [upd_same] at e
      cases e
      exact ⟨⟨oe, vs, ha, hz, hd⟩, ⟨oe, ha⟩, fun _ _ ⟨o, v, q, r⟩ k => ⟨o, v, k o q, r⟩⟩
    · rw [upd_ne hb] at e
      exact (I.hok b u e).stay (fun c v _ q => q) (fun c q => by rw [upd_ne (sm c _ q)]; exact q) fun c xs q => by rw [upd_ne (sm c _ q)]; exact q
/-- what 'except x as n' wishes, the exception known as a value behind the suite -/
def wKeep (K : PySem.W.Frag) (c : Value) (i : Nat) (ts : Addr → Value → Option Addr → TS) (D : Ends) : WX := fun cls d σ H =>
  PySem.W.exmOne K cls c = some true ∧ ∀ a, H a = none → ts a cls d { nx := fun σ' H' => D.nx (σ'.set i none) (upd H' a (ExD cls d a)), rt := fun _ _ => False, bk := fun _ _ => False, ct := fun _ _ => False } (σ.set i (some (.ref a))) H
end
section
variable {X : Cx} {x n : Str} {c : Value} {i : Nat} {body suite : List Stmt} {b₀ : Stmt} {np pos pos' : Pos} {tb : WX → TS} {ts : Addr → Value → Option Addr → TS}
theorem ps_try_keep (hs : X.stack = X.env :: X.outer) (hf : X.env.frame = some X.env.locals) (hN : X.N.Nodup) (hi : X.N[i]? = some n) (hln : X.env.kindOf n = some .local) (hc : Names X x c) (hex : X.ex = [])
    (hb : ∀ (W : WX) (pn : List (Addr × Obj)) (xe : Value → Shared → Prop), Takes (X.tr pn xe) W → PassesOwn (model X.prog X.w) X.A X.env xe → PSs (X.tr pn xe) body (tb W))
    (hsu : ∀ (a : Addr) (oe : Obj) (cls : Value) (d : Option Addr) (pn : List (Addr × Obj)), Zc cls d oe → (∃ vs, oe.data = .fields vs) → PSs (X.suite a ((a, oe) :: pn)) (b₀ :: suite) (ts a cls d)) :
    PS X (.Try body [.ExceptHandler (some (.Name x np)) (some n) (b₀ :: suite) pos'] [] [] pos) (fun D σ H => tb (wKeep X.K c i ts D) D σ H) := by
  refine ⟨fun pins s σ H D I h => ?_⟩
  have ok := I.ok
  have hfr : X.A.frames = some (X.env :: X.outer) := by rw [ok.frames, hs]
  refine wpAny_Try_except (wpAny_mono ((hb (wKeep X.K c i ts D) (X.pn ++ pins) (fun e s₁ => wpAny (model X.prog X.w) X.A (noteFrame e X.env) (fun _ s₂ => wpAny (model X.prog X.w) X.A (setFlight e none) (fun _ s₃ =>
    wpAny (model X.prog X.w) X.A (handleBy e X.env [.ExceptHandler (some (.Name x np)) (some n) (b₀ :: suite) pos']) (SP X pins D) X.xe s₃) X.xe s₂) X.xe s₁) (fun u s' xx => ?_) PassesOwn.looking).run [] s σ H D (I.toTry _) h) (fun f s1 hsp => ?_) (fun e s1 he => he))
  · obtain ⟨a, B, sI, pins', σ', H', cls, d, rfl, J', nb, up, sky, na, os, ag, hb1, hyes⟩ := xx
    have J : Inv X pins σ' H' sI := J'.ofTry ok
    have sky' : Sky B (X.env :: X.outer) a (Zc cls d) X.env.locals s'.heap := by rw [← hs]; exact sky
    show wpAny (model X.prog X.w) X.A (noteFrame (.ref a) X.env) _ _ _
    refine Sky.land Zc.steady hfr hf sky' fun h3 fl3 up3 => ?_
    have J3 : Inv X pins σ' H' { s' with heap := h3 } := J.landed nb fl3.1 (up.trans up3) os ag
    obtain ⟨oe3, vs3, he3, hz3, hd3⟩ := fl3.there
    have nfr : a ∉ frs (X.env :: X.outer) := fun hm => by
      obtain ⟨_, o', e', hnf⟩ := fl3.2.2.1.mem hm
      rw [he3] at e'
      cases e'
      exact hnf _ hd3
    have nL : a ≠ X.env.locals := fun z => nfr (List.mem_filterMap.mpr ⟨X.env, List.mem_cons_self, by rw [hf, z]⟩)
    have nF : a ∉ X.fs := fun hm => by
      obtain ⟨e, he, q⟩ := List.mem_filterMap.mp hm
      exact nfr (List.mem_filterMap.mpr ⟨e, List.mem_cons_of_mem _ he, q⟩)
    -- the object is new: it was not there in the state without it
    have nI : sI.heap.get? a = none := by
      cases e : sI.heap.get? a with
      | none => rfl
      | some o =>
        have z := nb a o e (by show a ∉ frs X.stack; rw [hs]; exact nfr)
        rw [fl3.2.1] at z
        cases z
    have n0 : X.s_0.heap.get? a = none := by
      cases e : X.s_0.heap.get? a with
      | none => rfl
      | some o =>
        obtain ⟨o', z⟩ := J.base.there a o e (by rw [hex]; simp)
        rw [nI] at z
        cases z
    have npin : ∀ p ∈ X.pn ++ pins, p.1 ≠ a := fun p hp z => by
      have q := (J.pin p hp).1
      rw [z, nI] at q
      cases q
    have S3 := J3.suite he3 hd3 na nL nF
    refine wpAny_handleBy_cons (codeAny_handlers_test ?_) (by intro q; cases q)
    have LT : PySem.W.Looks (model X.prog X.w) h3 (typeOf (.ref a)) cls := fun A Q E s k q => wpAny_typeOf_ref (k _ _ he3) (by rw [hz3.1]; exact q)
    have LM := PySem.W.exm_one (M := model X.prog X.w) (J3.kIn) LT hb1
    have test : ∀ {Q : Value → Shared → Prop} {E : Value → Shared → Prop}, Q c { s' with heap := h3 } → wpAny (model X.prog X.w) (X.A.mark (some (.ref a))) (eval (.Name x np) X.env) Q E { s' with heap := h3 } := fun {Q E} q => by
      obtain ⟨hg, hdbg, hm | ⟨hm, hv, hnn⟩⟩ := hc
      · exact ld_glob (X := X.suite a ((a, oe3) :: (X.pn ++ pins))) S3 hg hm q hdbg
      · exact ld_blt (X := X.suite a ((a, oe3) :: (X.pn ++ pins))) S3 hg hm hv q hnn hdbg
    refine test (LM.here (codeAny_handlers_suite_as (HandSPX.lands_againZ fl3 fun h4 fl4 up4 => ?_)))
    have J4 : Inv X pins σ' H' { s' with heap := h4 } := J.landed nb fl4.1 ((up.trans up3).trans up4) os ag
    obtain ⟨oe4, vs4, he4, hz4, hd4⟩ := fl4.there
    have S4 := J4.suite he4 hd4 na nL nF
    refine store_ok (X := X.suite a ((a, oe4) :: (X.pn ++ pins))) (v := .ref a) S4 hN hi (.inl hln) rfl (fun s5 S5 => ?_) (.inr hln)
    refine wpAny_mono ((hsu a oe4 cls d (X.pn ++ pins) hz4 ⟨_, hd4⟩).run [] s5 _ H' _ S5 (hyes a na)) (fun f s6 hsp => ?_) (fun _ _ z => False.elim z)
    cases f with
    | next =>
      obtain ⟨σ6, H6, S6, q6⟩ := hsp
      have I6 : Inv X ((a, oe4) :: pins) σ6 H6 s6 := ⟨ok, S6.os, S6.bare, S6.base, S6.loc, S6.cell, S6.free, S6.freeC, fun p hp => S6.pin p (by
        rw [List.append_nil]
        rcases List.mem_append.mp hp with h | h
        · exact List.mem_cons_of_mem _ (List.mem_append_left _ h)
        · rcases List.mem_cons.mp h with e | h
          · rw [e]; exact List.mem_cons_self
          · exact List.mem_cons_of_mem _ (List.mem_append_right _ h)), S6.hok, S6.len⟩
      exact gone_ok I6 hN hi hln fun s7 J7 => ⟨_, _, Inv.track J7 hd4 hz4 n0 npin, q6⟩
    | brk =>
      obtain ⟨_, _, _, q6⟩ := hsp
      exact q6.elim
    | cont =>
      obtain ⟨_, _, _, q6⟩ := hsp
      exact q6.elim
    | ret u =>
      obtain ⟨_, _, _, _, _, q6⟩ := hsp
      exact q6.elim
  · cases f with
    | next =>
      obtain ⟨σ', H', J', q⟩ := hsp
      exact wpAny_execs_nil ⟨σ', H', J'.ofTry ok, q⟩
    | brk =>
      obtain ⟨σ', H', J', q⟩ := hsp
      exact ⟨σ', H', J'.ofTry ok, q⟩
    | cont =>
      obtain ⟨σ', H', J', q⟩ := hsp
      exact ⟨σ', H', J'.ofTry ok, q⟩
    | ret u =>
      obtain ⟨v, σ', H', J', r, q⟩ := hsp
      exact ⟨v, σ', H', J'.ofTry ok, r, q⟩
end
/-! ### _law_caught -/
theorem takes_len {X : Cx} {W : WX} (tk : Takes X W) : Takes X (fun cls d σ H => σ.length = X.N.length → W cls d σ H) := fun u s' ⟨a, B, sI, pins, σ, H, cls, d, e, I, nb, up, sky, na, os, ag, w⟩ =>
  tk u s' ⟨a, B, sI, pins, σ, H, cls, d, e, I, nb, up, sky, na, os, ag, w I.len⟩
def TCaught (K : PySem.W.Frag) (CS : Addr) : (XK → Hp → VK → Prop) → Hp → VK → Prop := fun tl H Q =>
  tl (fun cls d H' => PySem.W.exmOne K cls (.ref CS) = some true ∧ ∀ a, H' a = none → Q (.ref a) (upd H' a (ExD cls d a))) H (fun _ H' => ∃ v, some (some V.non) = some (some v) ∧ Q v H')
theorem sc_law_caught : FnScope ["_law_work", "_law_caught_here", "error"] ["_law_work"] (defScope (top 47)) := ⟨rfl, rfl, rfl, by decide +kernel, rfl, by decide +kernel, by decide +kernel⟩
theorem caught_gives {X : Cx} {q : Str} {g CS : Addr} {cdg : Value} (hme : X.mg "WrongError" = some (.ref CS)) :
    GivesTo X ["_law_work", "_law_caught_here", "error"] "_law_caught" (defScope (top 47)) g cdg (defBody (top 47)) "_law_work" q (TCaught X.K CS) := by
  intro f c' s H Q tl act hc h
  have hgl : Gl (cxOf C8.CX0 X.prog X.w X.K X.mg X.base ["_law_work", "_law_caught_here", "error"] "_law_caught" (defScope (top 47)) g cdg X.A X.stack s H C8.E0).nox "WrongError" := rfl
  refine ⟨_, pss_cons (ps_set (i := 1) sc_law_caught.nd rfl (by first | exact Or.inl rfl | exact Or.inr rfl) pe_non)
    (pss_cons (ps_try_keep (X := (cxOf C8.CX0 X.prog X.w X.K X.mg X.base ["_law_work", "_law_caught_here", "error"] "_law_caught" (defScope (top 47)) g cdg X.A X.stack s H C8.E0).nox) (c := .ref CS) (i := 2) (n := "error") (x := "WrongError")
      (tb := fun W D σ H => ∃ Ech : XK, (∀ cls d σ' H', σ'.length = 3 → Ech cls d H' → W cls d σ' H') ∧ σ[0]? = some (some (.ref f)) ∧ H c' = some (CodeO c' q) ∧ tl Ech H (fun _ H' => D.nx σ H'))
      rfl rfl sc_law_caught.nd rfl rfl ⟨hgl, rfl, .inl hme⟩ rfl (fun W pn xe tk _ => ?_) (fun a oe cls d pn _ _ => pss_one (ps_set (i := 1) sc_law_caught.nd rfl (by first | exact Or.inl rfl | exact Or.inr rfl) (pv 2))))
    (pss_one (ps_ret (pv 1)))), ?_⟩
  · refine ⟨fun pins s' σ H' D I h' => ?_⟩
    obtain ⟨Ech, hW, h1, h2, h3⟩ := h'
    exact PSs.run (pss_one (ps_expr (act (fun cls d σ H => σ.length = 3 → W cls d σ H) pn xe Ech _ _ (takes_len tk) (fun cls d σ' H' q z => hW cls d σ' H' z q)))) pins s' σ H' D I ⟨h1, h2, h3⟩
  · refine ⟨fun cls d H' => PySem.W.exmOne X.K cls (.ref CS) = some true ∧ ∀ a, H' a = none → Q (.ref a) (upd H' a (ExD cls d a)), fun cls d σ' H' hl z => ⟨z.1, fun a ha => ?_⟩, rfl, hc, h⟩
    obtain ⟨x1, x2, x3, rfl⟩ : ∃ x1 x2 x3, σ' = [x1, x2, x3] := by
      match σ', hl with
      | [a, b, c], _ => exact ⟨a, b, c, rfl⟩
    exact ⟨_, rfl, _, rfl, z.2 a ha⟩
/-! ### the exception told and its field read -/
theorem ExD.inst {X : Cx} {pins : List (Addr × Obj)} {σ : L2.St} {H : Hp} {s : Shared} {a D : Addr} {d : Option Addr} (I : Inv X pins σ H s) (h : H a = some (ExD (.ref D) d a)) (hd : ∀ dd, d = some dd → ∃ fs, H dd = some (.xd fs)) :
    ∃ oe od, s.heap.get? a = some oe ∧ oe.dict = d ∧ (∀ dd, d = some dd → s.heap.get? dd = od) ∧ PySem.W.InstAt s.heap a oe D od := by
  obtain ⟨⟨oe, vs, ho, hz, hv⟩, _, _⟩ := (show ObjOk X.prog X.w H s.heap a (ExD (.ref D) d a) from I.hok a _ h)
  cases d with
  | none =>
    refine ⟨oe, none, ho, hz.2, fun dd e => (by cases e), ho, hz.1, ?_, ?_⟩
    · unfold PySem.W.notCls
      rw [hv] <;> rfl
    · rw [hz.2]
      trivial
  | some dd =>
    obtain ⟨fs, q⟩ := hd dd rfl
    obtain ⟨m, ⟨od, es, ep, e, _⟩, _⟩ := (show ObjOk X.prog X.w H s.heap dd (.xd fs) from I.hok dd _ q)
    refine ⟨oe, some od, ho, hz.2, fun d2 e2 => (by cases e2; exact e), ho, hz.1, ?_, ?_⟩
    · unfold PySem.W.notCls
      rw [hv] <;> rfl
    · rw [hz.2]
      exact e
/-- isinstance(e, C), e of the very class C -/
def rIsX (K : PySem.W.Frag) : List V → Hp → VK → Prop := fun xs H Q => ∃ (a C : Addr) (d : Option Addr), xs = [.ref a, .ref C] ∧ H a = some (ExD (.ref C) d a) ∧ (∀ dd, d = some dd → ∃ fs, H dd = some (.xd fs)) ∧ ExcC K C ∧ Q (.bl true) H
theorem ck_isX {X : Cx} : CallR X (.builtin "isinstance") (rIsX X.K) := by
  intro pins s σ H xs us Q I r h
  obtain ⟨a, C, d, rfl, ha, hd, ec, q⟩ := h
  obtain ⟨u1, u2, rfl, r1, r2⟩ := vals2 r
  cases (show u1 = Value.ref a from r1)
  cases (show u2 = Value.ref C from r2)
  obtain ⟨oe, od, _, _, _, J⟩ := ExD.inst I ha hd
  have hcl : (PySem.W.clsIn X.K C).isSome = true := by
    obtain ⟨cd, hc, _⟩ := PySem.W.any_some ec.hd
    rw [hc] <;> rfl
  refine PySem.W.kia_one (b := true) (PySem.W.kitx_exc hcl ec.hg ec.hk ec.hs ec.ha ec.hn ec.ht ec.hm) I.kIn J ?_ (fun z => nomatch z) fun tk => ⟨.bl true, H, I.tok tk, rfl, q⟩
  unfold PySem.W.kitOne
  rw [if_pos (by simp)]
/-- e.f -/
def tXfV (K : PySem.W.Frag) (f : Str) (te : TE) : TE := fun σ H Q => te σ H fun x H1 => ∃ (a C dd : Addr) (fs : List (Str × V)) (v : V), x = .ref a ∧ H1 a = some (ExD (.ref C) (some dd) a) ∧ H1 dd = some (.xd fs) ∧ fs.lookup f = some v ∧ XfC K C ∧ PySem.W.findIn K (.ref C) f = some none ∧ Q v H1
theorem pe_xfV {X : Cx} {e : Expr} {te : TE} {pos : Pos} {n : Str} (he : PE X e te) (hb : attributeBase e n X.env (eval e X.env) = eval e X.env := by rfl) : PE X (.Attribute e n pos) (tXfV X.K n te) := by
  refine ⟨fun pins s σ H Q I h => ?_⟩
  refine attr_of hb (thn (he.run pins s σ H _ I h) fun u s1 hh => ?_)
  obtain ⟨x, H1, I1, rx, a, C, dd, fs, v, ex, h1, h2, l, T, hno, q⟩ := hh
  subst ex
  obtain rfl : u = Value.ref a := rx
  obtain ⟨mA, hns, hr⟩ := (show ObjOk X.prog X.w H1 s1.heap dd (.xd fs) from I1.hok dd _ h2)
  obtain ⟨od, ho, hl⟩ := lookIn_ns hns
  obtain ⟨u, hu, ru⟩ := RelO.some_of (v := v) (o := mA n) (by rw [← l]; exact hr n)
  obtain ⟨oe, od', e1, e2, e3, J⟩ := ExD.inst I1 h1 (fun d2 e => ⟨fs, by cases e; exact h2⟩)
  have e4 := e3 dd rfl
  rw [ho] at e4
  subst e4
  exact HandSPX.exc_get I1.kIn J T.ga T.gg T.exC (PySem.W.findObj_own T.hdC hno rfl (by rw [hl, hu])) (handed_of ru) ⟨v, H1, I1.tok _, ru, q⟩
end K81
set_option maxHeartbeats 2000000
/-! An exception class of the program whose __init__ says super().__init__('..') and then sets a field. -/
namespace K81
open PySem PySem.Spec PyProof.Rows L2 LamX K81M StX RZ NdefX
/-- __init__(self, x): the field is set -/
def spXi (C : Addr) (fld : Str) : Sp := fun vs H Q _ => ∃ (e : Addr) (y : V), vs = [.ref e, y] ∧ H e = some (exo e C none) ∧ ∀ dx, H dx = none → dx ≠ e → Q .non (upd (upd H dx (exd dx [(fld, y)])) e (exo e C (some dx)))
theorem exinit_ok {P : Program} {w : World} {K : PySem.W.Frag} {mg : Str → Option Value} {base : Heap} {k : Nat} {name qual : Str} {params : Arguments} {body : List Stmt} {scope : Scope} {doc pm ct oc ccl cl : Value} {od cdd cld : Option Addr} {osl ccs csl : Array (Option Value)}
    {f cc cda C : Addr} {fld par m : Str} {N : List Str} {ar : Arg} {vs : Array Value} {tf : Tok} {file : Str} {p0 p1 p2 p3 p4 p5 p6 p7 p8 p9 : Pos} {j : Nat}
    (lk : K.lookup f = some ⟨oc, od, .func (PySem.W.ksFn name qual params body scope .none .none doc pm none (.ref cda) ct cc), osl⟩) (hcd : PySem.W.codeIn K (.ref cda) qual = true) (S : NScope [("self" : Str), par, "__class__"] [("self" : Str), par] ["__class__"] scope)
    (hb : body = [.Expr (.Call (.Attribute (.Call (.Name "super" p0) [] [] p1) "__init__" p2) [.Constant (.str m) j p3] [] p4) p5, .Assign [.Attribute (.Name "self" p6) fld p7] (.Name par p8) p9])
    (hhead : (params.posonlyargs ++ params.args).head? = some ar) (har : ar.arg = "self") (hcode : K.lookup cda = some ⟨ccl, cdd, .fields vs, ccs⟩) (hvs : vs[2]? = some (.str file tf)) (hfile : ((P.main.file : Str) == file) = true)
    (hcell : K.lookup cc = some ⟨cl, cld, .cell (some (.ref C)), csl⟩) (T : OexC K C) (hsi : PySem.W.ks_superIn K C C "__init__" = some (some (.builtin "ValueError.__init__"))) (hVE : PySem.W.subIn K (.ref C) (.type "ValueError") = some true)
    (hsC : PySem.W.mroIn K C (.ref C) = some true) (hop : PySem.W.nsIn K cStatics "thirdparty.any" = some none) (hsup : mg "super" = none) (hks : scope.names.lookup ("super" : Str) = some .globalImplicit) (htop : (P.main.scope.names.lookup ("super" : Str)).isSome = false)
    (hfld : PySem.W.findIn K (.ref C) fld = some none) {pl : Env → Sem Bool}
    (hE : ∀ L : Addr, eval (.Call (.Attribute (.Call (.Name "super" p0) [] [] p1) "__init__" p2) [.Constant (.str m) j p3] [] p4) (PySem.W.ksEnv qual scope L f (.ref cda) cc) = (do
      let ov ← attributeBase (.Call (.Name "super" p0) [] [] p1) "__init__" (PySem.W.ksEnv qual scope L f (.ref cda) cc) (eval (.Call (.Name "super" p0) [] [] p1) (PySem.W.ksEnv qual scope L f (.ref cda) cc))
      standAt p2.atName
      let (f1, first) ← holding [ov] (getMethod ov "__init__" (pl (PySem.W.ksEnv qual scope L f (.ref cda) cc)))
      callWith p4 f1 first (backTo p4 (starEach [.Constant (.str m) j p3] (PySem.W.ksEnv qual scope L f (.ref cda) cc))) []))
    (hI : ∀ L : Addr, interactive (PySem.W.ksEnv qual scope L f (.ref cda) cc) = false) (hs5 : ∀ L : Addr, swapsWith (.Call (.Attribute (.Call (.Name "super" p0) [] [] p1) "__init__" p2) [.Constant (.str m) j p3] [] p4) none p5.line (PySem.W.ksEnv qual scope L f (.ref cda) cc) = pure false)
    (hs9 : ∀ L : Addr, swapsWith (.Name par p8) (some (.Attribute (.Name "self" p6) fld p7)) p9.line (PySem.W.ksEnv qual scope L f (.ref cda) cc) = pure false) (hpd : (par == ("__debug__" : Str)) = false) (hpc : (par == ("__classdict__" : Str)) = false) :
    FnOk P w K mg base C8.CX0 (k + 1) f (PySem.W.ksFn name qual params body scope .none .none doc pm none (.ref cda) ct cc) [("self" : Str), par] (spXi C fld) := by
  obtain ⟨NN, hNN⟩ : ∃ NN : List Str, NN = [("self" : Str), par, "__class__"] := ⟨_, rfl⟩
  obtain ⟨PP, hPP⟩ : ∃ PP : List Str, PP = [("self" : Str), par] := ⟨_, rfl⟩
  rw [← hNN, ← hPP] at S
  rw [← hPP]
  have hkc : scope.names.lookup ("__class__" : Str) = some .free := S.frk _ (by simp)
  have hka : scope.names.lookup ("self" : Str) = some .local := S.par _ (by rw [hPP]; simp)
  have hkp : scope.names.lookup par = some .local := S.par _ (by rw [hPP]; simp)
  refine ⟨fun vs H Q E h => ?_, fun A outer s H args us vs0 Q E hr e0 hbind r hsp => ?_⟩
  · obtain ⟨e, y, rfl, _⟩ := h
    rw [hPP]
    rfl
  obtain ⟨e, y, rfl, he, kq⟩ := hsp
  obtain ⟨u1, u2, rfl, r1, r2⟩ := vals2 r
  cases (show u1 = Value.ref e from r1)
  obtain ⟨hp, g, d, t, os⟩ := s
  have KX : K.In hp := e0.mod.kin.keeps fun b o e => (e0.bs b o e).1
  have lim : hp.NoLimit := e0.mod.nolimit.keeps fun b o e => (e0.bs b o e).1
  have hcb : base.get? cc = some ⟨cl, cld, .cell (some (.ref C)), csl⟩ := e0.mod.kin _ _ hcell
  have C0 : CellsAt [("__class__", cc)] ["__class__"] [some (V.ref C)] hp H := by
    refine ⟨rfl, fun y c hc => ?_, fun x y c h1 h2 => ?_, fun i y hi => ?_⟩
    · have : c = cc := by
        simp only [List.lookup] at hc
        split at hc
        · exact (Option.some.inj hc).symm
        · cases hc
      subst this
      exact ⟨(e0.bs _ _ hcb).2, _, _, (e0.bs _ _ hcb).1, rfl⟩
    · have z : ∀ x, List.lookup x [(("__class__" : Str), cc)] = some c → x = "__class__" := fun x h => by
        simp only [List.lookup] at h
        split at h
        · rename_i q
          exact beq_iff_eq.mp q
        · cases h
      rw [z x h1, z y h2]
    · have hy : y = "__class__" := by
        cases i with
        | zero => exact (Option.some.inj hi).symm
        | succ i => simp at hi
      subst hy
      refine ⟨cc, rfl, fun v hv => ⟨.ref C, ?_, _, (e0.bs _ _ hcb).1, rfl⟩⟩
      cases i with
      | zero =>
        have : v = .ref C := (Option.some.inj (Option.some.inj hv)).symm
        subst this
        rfl
      | succ i => simp at hi
  refine PySem.ks_codeAny_call_defAt (fd := PySem.W.ksFn name qual params body scope .none .none doc pm none (.ref cda) ct cc) (body := body) (binds := PP.zip [Value.ref e, u2]) hr.depth (KX _ _ lk) rfl lim (PySem.W.codeRec_of KX hcd) rfl hbind S.nocell (fun x hx => S.par _ (List.of_mem_zip hx).1) (fun h₁ hns kp => ?_) S.co S.gen S.kind
  obtain ⟨F, hF⟩ : ∃ F : NF, F = ⟨name, qual, params, body, scope, [("__class__", cc)], cda⟩ := ⟨_, rfl⟩
  have I0 : Inv (ncx C8.CX0 P w K mg base NN F f A outer ⟨hp, g, d, t, os⟩ H E) [] (startF NN [.ref e, y] [some (V.ref C)]) H ⟨h₁, g, d, t + (PP.zip [Value.ref e, u2]).length, os⟩ := by
    subst hF
    exact inv_startN S hr.hd e0 (by rw [hPP]; rfl) r C0 hns kp
  have K1 : K.In h₁ := KX.keeps kp
  obtain ⟨nm, q, Na, bs, bm, sn, sub, ab, col, dd, k0, k1, k2, k3, k5, hC, hbm⟩ := T.cls
  have hC1 := K1 _ _ hC
  obtain ⟨t1, ho⟩ := exo_at I0.hok he
  obtain ⟨mb, b1, b2⟩ := I0.mod.blt
  have hns' : h₁.Ns hp.objs.size (fun x => (PP.zip [Value.ref e, u2]).reverse.lookup x) := hns
  have hself : (PP.zip [Value.ref e, u2]).reverse.lookup ("self" : Str) = some (.ref e) := by
    have nd : PP.Nodup := by
      have z := S.nd
      rw [hNN] at z
      rw [hPP]
      exact z.sublist (by simp)
    exact zip_look (i := 0) nd (by rw [hPP]; rfl) rfl
  have hcl : PySem.W.clsIn K C = some { name := nm, bases := bs, mro := .ref C :: bm, ns := Na, qualname := q, hasDict := true, slotNames := sn, subclasses := sub, abstract := ab, collection := col, hasDel := false } := by unfold PySem.W.clsIn; rw [hC] <;> rfl
  subst hb
  refine PySem.ks_wpAt_execs_cons (PySem.ks_wpAt_Expr_any (PySem.ks_wpAt_MethodCall (PySem.ks_wpAt_super_base (of := ⟨oc, od, .func _, osl⟩) hks hkc (by decide +kernel) rfl (K1 _ _ lk) rfl hhead rfl (K1 _ _ hcode) rfl hvs hfile htop ?_) (hE _)) (hI _) (hs5 _))
  refine PySem.W.ks_loadName_global S.kind hks (Calls.loadGlobal_builtin (I0.mod.glob.keeps I0.bk) hsup (b1.keeps I0.bk) ((b2 _ (by decide +kernel)).trans (by first | rfl | kernel_rfl | boot_by_name)) ⟨rfl, ?_⟩)
  refine wpAny_loadName_free S.kind hkc rfl ⟨_, K1 _ _ hcell, rfl⟩ ?_
  rw [har]
  refine wpAny_loadName_local S.kind hka hns' hself ?_
  refine PySem.ks_wpAny_isType_cls hC1 rfl ⟨rfl, ?_⟩
  refine PySem.ks_wpAny_call_super hC1 rfl ho rfl (fun c z => by cases z) (PySem.W.looks_mroIn K1 hsC) (fun h2 hso k2' => ?_)
  have K2 : K.In h2 := K1.keeps k2'
  have hxC : e ≠ C := fun z => by
    have q := (I0.bs C _ (e0.mod.kin _ _ hC)).2
    rw [← z, he] at q
    cases q
  have hal : PySem.W.alongIn K "__init__" (((Value.ref C :: bm).dropWhile (· != .ref C)).drop 1) = some (some (.builtin "ValueError.__init__")) := by
    have z := hsi
    unfold PySem.W.ks_superIn at z
    rw [hcl] at z
    exact z
  have IA : PySem.W.InstAt h2 e { cls := .ref C, dict := none, data := .fields #[.ref t1, .none, .none, .none, .bool false, .none] } C none := ⟨k2' _ _ ho, rfl, rfl, trivial⟩
  refine PySem.W.kxs_getMethod PySem.W.kxs_ValueError hso (PySem.W.looks_opaque K2 hop) (l₀ := .ref C :: bm) (fun A Q E s k q => wpAny_bind ((PySem.W.looks_clsIn K2 hcl) A _ E s k (wpAny_pure q))) rfl K2 hal (IA.type.andThen (PySem.W.looks_subIn K2 hVE)) hxC (by decide +kernel) ?_
  have k3 : ∀ b o, h₁.get? b = some o → (h2.push (PySem.W.kxs_mw "ValueError.__init__" e)).get? b = some o := fun b o z => Heap.get?_push_of_some _ (k2' b o z)
  have hmw : (h2.push (PySem.W.kxs_mw "ValueError.__init__" e)).get? h2.objs.size = some (PySem.W.kxs_mw "ValueError.__init__" e) := Heap.get?_push_size _ rfl
  have hC3 := k3 _ _ hC1
  have he3 := k3 _ _ ho
  generalize h2.push (PySem.W.kxs_mw "ValueError.__init__" e) = h3 at k3 hmw hC3 he3
  show wpAny _ _ (callWith p4 (.ref h2.objs.size) [] (backTo p4 ((false, eval (.Constant (.str m) j p3) _) :: starEach [] _)) []) _ _ _
  refine PySem.W.kxs_callWith (i := "ValueError.__init__") (x := e) rfl (Calls.evalArgs_plain (Calls.spliced_cons ?_))
  refine Calls.Constant_str (k := j) (pos := p3) ?_
  show wpAny _ _ (spliced []) _ _ _
  refine Calls.spliced_nil ⟨hmw, ?_⟩
  refine wpAny_call (codeAny_of_tree ?_)
  show wpAny _ _ (callAny (.ref h2.objs.size) ⟨[_], []⟩) _ _ _
  simp only [callAny]
  refine wpAny_bind (wpAny_load hmw ?_)
  simp only [PySem.W.kxs_mw, show (Value.type "method-wrapper" == Value.type "method" || Value.type "method-wrapper" == Value.type "builtin_function_or_method" || Value.type "method-wrapper" == Value.type "method-wrapper") = true by decide, if_true]
  refine PySem.W.KFB.if_so (by decide) ?_
  refine wpAny_bind (PySem.W.check_bound_init PySem.F.excBase_ValueError.toExcCallFacts hC3 he3 rfl ?_)
  refine wpAny_bind (wpAny_pure (wpAny_pure ?_))
  refine ⟨plainId_quiet PySem.F.excBase_ValueError.init.plain _, codeAny_builtin PySem.F.excBase_ValueError.initEntry ?_⟩
  refine PySem.W.exc_init_tree (e := e) he3 (by show 1 ≤ sizeLine; decide) (fun h4 k4 he4 _ => ?_)
  show PySem.wpAt _ _ _ (execs [.Assign [.Attribute (.Name "self" p6) fld p7] (.Name par p8) p9] _) _ _ _
  refine wpAt_of_wpAny ?_
  have k5 : ∀ b o, b ≠ e → h₁.get? b = some o → h4.get? b = some o := fun b o hb z => k4 b o hb (k3 b o z)
  have J0 := I0.write (t' := t + (PP.zip [Value.ref e, u2]).length + 1 + 1) (x := e) (e := e) (o := exo e C none) (by rw [he]; exact True.intro) (.inl rfl) k5 ⟨_, he4⟩ (exo_ok he4)
  have eu : upd H e (exo e C none) = H := by
    funext b
    by_cases hb : b = e
    · rw [hb, upd_same, he]
    · rw [upd_ne hb]
  rw [eu] at J0
  subst hNN
  have pS := ps_ost (X := ncx C8.CX0 P w K mg base [("self" : Str), par, "__class__"] F f A outer ⟨hp, g, d, t, os⟩ H E) (f := fld) (p' := p7) (pos := p9) (pe_var (i := 0) (x := "self") (pos := p6) rfl (by subst hF; exact .inl hka)) (pe_var (i := 1) (x := par) (pos := p8) rfl (by subst hF; exact .inl hkp) hpd hpc) (by subst hF; exact hs9 _)
  have hrun := (pss_one pS).run [] _ _ _ { nx := fun _ H' => Q .non H', rt := fun v H' => Q v H' } J0 ⟨y, rfl, .ref e, rfl, e, C, rfl, T, hfld, .inl ⟨he, fun dx hdx hne => kq dx hdx hne⟩⟩
  subst hF
  refine wpAny_mono hrun (fun fl s' hs => ?_) fun e' s' hs => hs
  cases fl with
  | next =>
    obtain ⟨σ', H', J, q⟩ := hs
    exact ⟨.non, H', J.os, J.bare, J.base, J.hok, rfl, q⟩
  | ret u =>
    obtain ⟨v, σ', H', J, rv, q⟩ := hs
    exact ⟨v, H', J.os, J.bare, J.base, J.hok, rv, q⟩
  | brk =>
    obtain ⟨_, _, _, q⟩ := hs
    exact False.elim q
  | cont =>
    obtain ⟨_, _, _, q⟩ := hs
    exact False.elim q
end K81
set_option maxHeartbeats 2000000
/-! Tuples whose very object is known: made by a display, by +, by *, by tuple(..). -/
namespace K81
open PySem PySem.Spec PyProof.Rows L2 LamX K81M StX RZ
section
variable {X : Cx} {pins : List (Addr × Obj)} {σ : L2.St} {H : Hp} {s : Shared}
theorem Inv.laidF {h' : Heap} {xs : List V} {its : List Value} {t' : Nat} (I : Inv X pins σ H s) (k : ∀ b u, s.heap.get? b = some u → h'.get? b = some u) (hs : s.heap.objs.size ≤ h'.objs.size) (hz : xs.length ≤ sizeLine) (r : Vals xs its) :
    ∃ o : Obj, o.dict = none ∧ Inv X pins σ (upd H h'.objs.size (.frz o (.tup xs))) { s with heap := h'.push { cls := .type "tuple", data := .seq its.toArray }, toks := t' } := by
  have I1 : Inv X pins σ H { s with heap := h', toks := t' } := I.kept k
  refine ⟨{ cls := .type "tuple", data := .seq its.toArray }, rfl, I1.laid (t' := t') (o := .frz { cls := .type "tuple", data := .seq its.toArray } (.tup xs)) (fun b o e => Heap.get?_push_of_some _ e) (Nat.le_refl _) ?_⟩
  exact ⟨Heap.get?_push_size _ rfl, hz, its, r, IsTup.new _ _⟩
/-- a new frozen tuple -/
def NewF (H : Hp) (xs : List V) (Q : VK) : Prop := ∀ p o, H p = none → o.dict = none → Q (.ref p) (upd H p (.frz o (.tup xs)))
theorem NewF.of {T : List (Addr × Str)} {xs : List V} {Q : VK} (q : ∀ p H', Fr T [] H H' → H p = none → FzT H' p xs → Q (.ref p) H') : NewF H xs Q := fun p o hp ho => q p _ (Fr.new hp) hp ⟨o, ho, upd_same⟩
end
section
variable {X : Cx} {es : List Expr} {t : TA} {pos : Pos}
def tTupF (t : TA) : TE := fun σ H Q => t σ H fun xs H1 => xs.length ≤ sizeLine ∧ NewF H1 xs Q
theorem pe_tupF {x1} (h : PA X es t) : PE X (.Tuple es x1 pos) (tTupF t) := by
  refine ⟨fun pins s σ H Q I hq => ?_⟩
  refine wpAny_Tuple_spliced (thn (h.run pos pins s σ H _ I hq) fun us s1 ⟨xs, H1, I1, r, z, q⟩ => ⟨by rw [← r.length]; exact z, ?_⟩)
  obtain ⟨o, ho, J⟩ := Inv.laidF (t' := s1.toks) I1 (fun b u e => e) (Nat.le_refl _) z r
  exact ⟨.ref _, _, J, rfl, q _ _ (I1.hok.fresh (Nat.le_refl _)) ho⟩
/-- t + u, u not empty: t empty gives u itself -/
def rCatF (K : PySem.W.Frag) : R2 := fun x y H Q => ∃ a b xs ys, x = .ref a ∧ y = .ref b ∧ SqT K H a xs ∧ SqT K H b ys ∧ ys ≠ [] ∧ xs.length + ys.length ≤ sizeLine ∧ (xs = [] → Q (.ref b) H) ∧ (xs ≠ [] → NewF H (xs ++ ys) Q)
theorem op_catF : OpR X (binaryOp .Add) (rCatF X.K) := by
  intro pins s σ H x y v u Q I rx ry h
  obtain ⟨a, b, xs, ys, rfl, rfl, ha, hb, hy, hz, q0, q1⟩ := h
  cases rx
  cases ry
  obtain ⟨its, r1, p1, _⟩ := I.tuple ha
  obtain ⟨its2, r2, p2, _⟩ := I.tuple hb
  by_cases hx : xs = []
  · subst hx
    cases r1
    exact cat_tup0 p1 p2 ⟨.ref b, H, I, rfl, q0 rfl⟩
  · refine HT.cat_tup p1 p2 (fun z => hx (r1.nil_iff.mp z)) (fun z => absurd (r2.nil_iff.mp z) hy) (fun z => ?_) (by rw [← r1.length, ← r2.length]; exact hz)
    obtain ⟨o, ho, J⟩ := Inv.laidF (t' := s.toks) I (fun b u e => e) (Nat.le_refl _) (by rw [List.length_append]; exact hz) (r1.append r2)
    exact ⟨.ref _, _, J, rfl, q1 hx _ _ (I.hok.fresh (Nat.le_refl _)) ho⟩
/-- tuple(l), l a list -/
def rTupF (K : PySem.W.Frag) : List V → Hp → VK → Prop := fun xs H Q => ∃ p ys, xs = [.ref p] ∧ SqL K H p ys ∧ NewF H ys Q
theorem call_tupF : CallR X (.type "tuple") (rTupF X.K) := by
  intro pins s σ H xs us Q I r h
  obtain ⟨p, ys, rfl, hq, q⟩ := h
  obtain ⟨u, rfl, rx⟩ := vals1 r
  cases rx
  obtain ⟨its, r', pl, hz⟩ := I.list hq
  have hlen := r'.length
  refine call_tuple_list pl.isList (fun h' kp => ?_) (by simp only [List.size_toArray] <;> omega)
  have I1 : Inv X pins σ H { s with heap := h', toks := s.toks } := I.kept kp
  obtain ⟨o, ho, J⟩ := Inv.laidF (t' := s.toks) I1 (h' := h') (fun b u e => e) (Nat.le_refl _) hz r'
  exact ⟨.ref _, _, J, rfl, q _ _ (I1.hok.fresh (Nat.le_refl _)) ho⟩
/-- t * 27 -/
def rRepF (K : PySem.W.Frag) : R2 := fun x y H Q => ∃ l xs, x = .ref l ∧ y = .int 27 ∧ SqT K H l xs ∧ xs ≠ [] ∧ xs.length ≤ 1000 ∧ NewF H (List.replicate 27 xs).flatten Q
theorem op_repF : OpR X (binaryOp .Mult) (rRepF X.K) := by
  intro pins s σ H x y v u Q I rx ry h
  obtain ⟨l, xs, rfl, rfl, hT, hne, hz, q⟩ := h
  cases rx
  obtain ⟨t, rfl⟩ := ry
  obtain ⟨its, r, ⟨⟨cls, dd, data, sl⟩, ho, hc, n, hd⟩, hs⟩ := I.tuple hT
  simp only at hc hd
  subst hc hd
  have hle : its.length = xs.length := r.length.symm
  have hp : 0 < its.length := by
    rw [hle]
    exact List.length_pos_iff.mpr hne
  have hi : its.toArray.isEmpty = false := by
    cases its with
    | nil => exact absurd hp (by decide)
    | cons a b => rfl
  have hsz0 : its.toArray.size = xs.length := by rw [List.size_toArray, hle]
  have flen : (List.replicate 27 its).flatten.length ≤ sizeLine := by
    rw [PyProof.Rows.lm_len_rep_flat, hle, sizeLine_eq]
    omega
  have c4 : Builtin.Tuple.tupleTooMany (((its.toArray.size : Nat) : Int) * 27) = false := by
    unfold Builtin.Tuple.tupleTooMany
    rw [sizeLine_eq]
    exact decide_eq_false (by omega)
  refine wpAny_binaryOp_repeat_ref (T := "tuple") (U := "int") (by decide) ⟨_, ho, rfl⟩ (fun s' => typeIs_int s' 27 t) noFill_tuple_mul F.fills_int_mul F.slot_int_rmul repeat_tuple F.slot_int_index.lookup
    (call_meets F.slot_int_rmul (typeIs_int s 27 t) F.entry_int_rmul (F.args_int_rmul_2 _ _) (int_rmul_tuple 27 t l its.toArray n dd sl)
      ⟨ho, rfl, ⟨_, ho, rfl⟩, call_meets F.slot_tuple_mul ⟨_, ho, rfl⟩ F.entry_tuple_mul (F.args_tuple_mul_2 _ _) (tuple_mulW l its.toArray n dd sl 27 t (by decide) (by rw [hi]; rfl) (by rw [hi]; rfl) (by omega) c4 (by
        show (List.foldl (fun x1 x2 => x1 ++ x2) #[] (List.replicate 27 its.toArray)).size ≤ sizeLine
        rw [size_rep, List.size_toArray]; exact flen)) ⟨ho, ?_⟩⟩)
  show EP X pins σ Q (Value.ref s.heap.objs.size) { s with heap := s.heap.push { cls := Value.type "tuple", data := Data.seq (List.foldl (fun x1 x2 => x1 ++ x2) #[] (List.replicate 27 its.toArray)) }, toks := s.toks }
  rw [size_rep]
  obtain ⟨o, ho', J⟩ := Inv.laidF (t' := s.toks) I (fun b u e => e) (Nat.le_refl _) (by rw [PyProof.Rows.lm_len_rep_flat, sizeLine_eq]; omega) (r.rep 27)
  exact ⟨.ref _, _, J, rfl, q _ _ (I.hok.fresh (Nat.le_refl _)) ho'⟩
end
section
variable {X : Cx} (K : PySem.W.Frag)
theorem opCatF (h : X.K = K := by rfl) : OpR X (binaryOp .Add) (rCatF K) := h ▸ op_catF
theorem opRepF (h : X.K = K := by rfl) : OpR X (binaryOp .Mult) (rRepF K) := h ▸ op_repF
theorem crTupF (h : X.K = K := by rfl) : CallR X (.type "tuple") (rTupF K) := h ▸ call_tupF
/-- over a list or a tuple -/
def iSq (tl : TE) : TI := fun σ H R => iList K tl σ H R ∨ iTup K tl σ H R
theorem piSq {tg l : Expr} {tl : TE} (hl : PE X l tl) (h : X.K = K := by rfl) : PI X tg l (iSq K tl) := PI_or (piL K hl h) (piT K hl h)
end
end K81
set_option maxHeartbeats 2000000
namespace K81
open PySem PySem.Spec PyProof.Rows L2 LamX K81M StX RZ
/-! ### the program's exceptions -/
/-- without own __init__ -/
structure Ex1 (K : PySem.W.Frag) (mg : Str → Option Value) (CS : Addr) (x : Str) (C : Addr) : Prop where
  g : mg x = some (.ref C)
  exc : PySem.W.excIn K C PySem.HandSPX.veTail "ValueError.__new__" = true
  kp : PySem.W.keepIn K (.ref C) = true
  sb : PySem.W.subIn K (.ref C) (.type "BaseException") = some true
  ty : PySem.W.typeIn K (.ref C) = some (.type "type")
  isx : ExcC K C
  cg : PySem.W.exmOne K (.ref C) (.ref CS) = some true
/-- with one that sets a field -/
structure Ex2 (P : Program) (w : World) (K : PySem.W.Frag) (mg : Str → Option Value) (base : Heap) (CS : Addr) (x fld : Str) (C : Addr) : Prop where
  g : mg x = some (.ref C)
  oex : OexC K C
  ini : ∃ (fI : Addr) (fd : FuncData) (ps : List Str), PySem.W.findIn K (.ref C) "__init__" = some (some (.ref fI)) ∧ PySem.W.typeIn K (.ref fI) = some (.type "function") ∧ FnOk P w K mg base CX0 1 fI fd ps (spXi C fld) ∧ Binds K fd ps []
  isx : ExcC K C
  cg : PySem.W.exmOne K (.ref C) (.ref CS) = some true
  xf : XfC K C
  no : PySem.W.findIn K (.ref C) fld = some none
section
variable {X : Cx} {CS C : Addr} {x fld m : Str} {p p2 pos : Pos} {j k : Nat} {e : Expr} {ta : TA}
theorem Ex1.mk' (h : Ex1 X.K X.mg CS x C) (hg : Gl X x) (hdb : (x == ("__debug__" : Str)) = false := by decide) : PMk X (.Call (.Name x p) [.Constant (.str m) j p2] [] pos) (fun _ H Q => Q (.ref C) none H) :=
  pmk_own F.excBase_ValueError h.exc h.g h.kp (raises_own h.sb h.ty) hg hdb
theorem Ex2.mk' (h : Ex2 X.prog X.w X.K X.mg X.base CS x fld C) (hr : Room j X.A) (hj : 2 ≤ j) (hg : Gl X x) (ha : PA X [e] ta) (hdb : (x == ("__debug__" : Str)) = false := by decide)
    (he : starEach [e] X.env = (false, eval e X.env) :: starEach [] X.env := by rfl) (hpl : (backTo pos (starEach [] X.env)).any (·.1) = false := by rfl) :
    PMk X (.Call (.Name x p) [e] [] pos) (tMkO C (spXi C fld) [] ta) := by
  obtain ⟨fI, fd, ps, h1, h2, h3, h4⟩ := h.ini
  exact pmk_oex (p := p) (pos := pos) h.oex h1 h2 h3 (hr.mono hj) h4 .nil (fun _ _ _ _ _ _ _ h => h.elim) hg h.g ha hdb he hpl
end
theorem mkO {C : Addr} {fld : Str} {y : V} {H1 : Hp} {Q : XK} (h : ∀ d, H1 d = none → Q (.ref C) (some d) (upd H1 d (.xd [(fld, y)]))) :
    [y].length ≤ 1000 ∧ ∀ a, H1 a = none → spXi C fld (.ref a :: ([y] ++ [])) (upd H1 a (exo a C none)) (fun v H2 => v = .non ∧ ∃ (d : Addr) (fs : List (Str × V)), H2 a = some (exo a C (some d)) ∧ H2 d = some (exd d fs) ∧ H1 d = none ∧ Q (.ref C) (some d) (upd (L2.del H2 a) d (.xd fs))) (fun _ _ _ => False) := by
  refine ⟨by show 1 ≤ 1000; decide, fun a ha => ⟨a, y, rfl, upd_same, fun dx hdx hne => ⟨rfl, dx, [(fld, y)], upd_same, by rw [upd_ne hne, upd_same], ?_, ?_⟩⟩⟩
  · rw [upd_ne hne] at hdx
    exact hdx
  · have hd : H1 dx = none := by rw [upd_ne hne] at hdx; exact hdx
    have e : upd (L2.del (upd (upd (upd H1 a (exo a C none)) dx (exd dx [(fld, y)])) a (exo a C (some dx))) a) dx (.xd [(fld, y)]) = upd H1 dx (.xd [(fld, y)]) := by
      funext b
      by_cases h1 : b = dx
      · rw [h1, upd_same, upd_same]
      · rw [upd_ne h1, upd_ne h1]
        by_cases h2 : b = a
        · rw [h2, L2.del_same, ha]
        · rw [L2.del_ne h2, upd_ne h2, upd_ne h1, upd_ne h2]
    rw [e]
    exact h dx hd
section
variable {P : Program} {w : World} {K : PySem.W.Frag} {mg : Str → Option Value} {base : Heap} {Tb : List (Addr × Str)} {f : Addr} {fd : FuncData} {CS cL cW cN cT : Addr}
/-! ### need_between -/
def isTh (v : V) (hi : Int) : Bool := match v with
  | .int i => decide (0 ≤ i ∧ i ≤ hi)
  | _ => false
def spNeedBetween (cN : Addr) : Sp := fun vs H Q E => ∃ x hi part, vs = [x, .int 0, .int hi, .str part] ∧ (∃ t, TyS H x t) ∧ (isTh x hi = true → Q .non H) ∧ (isTh x hi = false → ∀ d, H d = none → E (.ref cN) (some d) (upd H d (.xd [("part", .str part)])))
theorem sc_need_between : FnScope ["number", "low", "high", "part"] ["number", "low", "high", "part"] (defScope (top 11)) := ⟨rfl, rfl, rfl, by decide +kernel, rfl, by decide +kernel, by decide +kernel⟩
theorem between_th {H : Hp} {x : V} {t : String} {hi : Int} {Q : VK} (ty : TyS H x t) (q : Q (.bl (isTh x hi)) H) : (∃ i, x = .int i ∧ Q (.bl (decide (0 ≤ i ∧ i ≤ hi))) H) ∨ (∃ t, TyS H x t ∧ t ≠ "int" ∧ Q (.bl false) H) := by
  cases ty with
  | int i => exact .inl ⟨i, rfl, q⟩
  | non => exact .inr ⟨_, .non, by decide, q⟩
  | bl b => exact .inr ⟨_, .bl b, by decide, q⟩
  | str b => exact .inr ⟨_, .str b, by decide, q⟩
  | lst e => exact .inr ⟨_, .lst e, by decide, q⟩
  | tup e => exact .inr ⟨_, .tup e, by decide, q⟩
  | fz e => exact .inr ⟨_, .fz e, by decide, q⟩
theorem between_sp {H : Hp} {x : V} {t : String} {hi : Int} {Q : VK} {E : XK} (ty : TyS H x t) (q : Q (.bl (isTh x hi)) H) : spBetween [x, .int 0, .int hi] H Q E := ⟨x, 0, hi, rfl, between_th ty q⟩
theorem ok_need_between (F : Fun K "need_between" "need_between" (top 11) f fd) (T : Txt mg) (X_BadNumber : Ex2 P w K mg base CS "BadNumber" "part" cN) (C_is_between : Cl P w K mg base CX0 2 "is_between" spBetween) :
    FnOk P w K mg base (L2.CX P w) 3 f fd ["number", "low", "high", "part"] (spNeedBetween cN) := by
  refine F.okX sc_need_between (fun vs H Q E h => ?_) (fun cdv A outer s H vs Q E hr h => ?_)
  · obtain ⟨x, hi, part, rfl, _⟩ := h
    rfl
  · obtain ⟨x, hi, part, rfl, ⟨t, ty⟩, h1, h2⟩ := h
    refine ⟨_, 
      (pss_one (ps_if (pt_not (pt_val (cl0 C_is_between hr (by decide) (by rfl) (pa_cons (pv 0) (pa_cons (pv 1) (pa_cons (pv 2) pa_nil))))))
      (pss_one (ps_raise rfl (takes_of rfl rfl rfl rfl) (Ex2.mk' X_BadNumber hr (by decide) (by rfl) (pa_cons (pv 3) pa_nil)))) pss_nil))
      , ?_⟩
    refine ⟨_, rfl, _, rfl, _, rfl, ?_⟩
    delta tNil
    dsimp only
    refine between_sp ty ?_
    refine ⟨_, rfl, ?_⟩
    cases e : isTh x hi with
    | true => exact iteF (h1 e)
    | false =>
      refine iteT ?_
      refine ⟨_, rfl, ?_⟩
      exact mkO (h2 e)
/-! ### is_weaving -/
/-- a list, or a tuple of either kind -/
def SqAt (H : Hp) (a : Addr) (xs : List V) : Prop := H a = some (.lst xs) ∨ H a = some (.tup xs) ∨ FzT H a xs
theorem SqAt.fr {T : List (Addr × Str)} {H H' : Hp} {a : Addr} {xs : List V} (h : SqAt H a xs) (f : Fr T [] H H') : SqAt H' a xs := by
  rcases h with h | h | h
  · exact .inl (f.lst0 h)
  · exact .inr (.inl (f.tup0 h))
  · exact .inr (.inr (f.fz0 h))
theorem SqAt.sq {K : PySem.W.Frag} {H : Hp} {a : Addr} {xs : List V} (h : SqAt H a xs) : SqL K H a xs ∨ SqT K H a xs := by
  rcases h with h | h | h
  · exact .inl (SqL.of h)
  · exact .inr (SqT.of h)
  · exact .inr h.sq
theorem SqAt.ty {H : Hp} {a : Addr} {xs : List V} (h : SqAt H a xs) : ∃ t, TyS H (.ref a) t ∧ (t == "list" || t == "tuple") = true := by
  rcases h with h | h | h
  · exact ⟨_, .lst h, by decide⟩
  · exact ⟨_, .tup h, by decide⟩
  · exact ⟨_, .fz h, by decide⟩
theorem forSq {K : PySem.W.Frag} {T : List (Addr × Str)} {a : Addr} {xs : List V} {j : Nat} {g : TG} {tb : TS} {D : Ends} {σ : L2.St} {H0 H : Hp} (ha : SqAt H0 a xs) (hσ : σ[j]? = some (some (.ref a))) (Pv : Nat → L2.St → Hp → Prop) (h0 : Pv 0 σ H)
    (hl : ∀ i σ' H', i ≤ xs.length → Pv i σ' H' → Fr T [] H0 H') (hs : ∀ i x σ H, xs[i]? = some x → Pv i σ H → g x σ H fun σ2 H2 => tb { D with nx := Pv (i + 1), ct := Pv (i + 1), bk := D.nx } σ2 H2) (hd : ∀ σ H, Pv xs.length σ H → D.nx σ H) : tFor (iSq K (tVar j)) g tb D σ H := by
  rcases ha with h | h
  · exact .inl ⟨_, hσ, a, rfl, ⟨_, SqL.of ((hl 0 _ _ (Nat.zero_le _) h0).lst0 h)⟩, for_list (K := K) Pv h0 (fun i σ' H' hi p => SqL.of ((hl i σ' H' hi p).lst0 h)) hs hd⟩
  · have h' : ∀ H', Fr T [] H0 H' → SqT K H' a xs := fun H' f => by
      rcases h with h | h
      · exact SqT.of (f.tup0 h)
      · exact (f.fz0 h).sq
    exact .inr ⟨_, hσ, a, rfl, ⟨_, h' _ (hl 0 _ _ (Nat.zero_le _) h0)⟩, for_tup (K := K) Pv h0 (fun i σ' H' hi p => h' _ (hl i σ' H' hi p)) hs hd⟩
/-- a weaving: a list, or a frozen tuple -/
def WvAt (H : Hp) (a : Addr) (l : List Nat) : Prop := H a = some (.lst (nIs l)) ∨ FzT H a (nIs l)
theorem WvAt.fr {T : List (Addr × Str)} {H H' : Hp} {a : Addr} {l : List Nat} (h : WvAt H a l) (f : Fr T [] H H') : WvAt H' a l := by
  rcases h with h | h
  · exact .inl (f.lst0 h)
  · exact .inr (f.fz0 h)
theorem WvAt.sq {H : Hp} {a : Addr} {l : List Nat} (h : WvAt H a l) : SqAt H a (nIs l) := by
  rcases h with h | h
  · exact .inl h
  · exact .inr (.inr h)
def spIsWeaving (Tb : List (Addr × Str)) : Sp := fun vs H Q _ => ∃ x, vs = [x] ∧ ((∃ t, TyS H x t ∧ (t == "list" || t == "tuple") = false ∧ ∀ H', Fr Tb [] H H' → Q (.bl false) H') ∨
  ∃ a xs, x = .ref a ∧ SqAt H a xs ∧ xs.length ≤ 100000 ∧ (∀ v ∈ xs, ∃ t, TyS H v t) ∧ ∀ H', Fr Tb [] H H' → Q (.bl (xs.all fun v => isTh v 3)) H')
theorem sc_is_weaving : FnScope ["thing", "item"] ["thing"] (defScope (top 14)) := ⟨rfl, rfl, rfl, by decide +kernel, rfl, by decide +kernel, by decide +kernel⟩
theorem all_map {α : Type} (l : List α) (g : α → Bool) : (l.map g).all id = l.all g := by
  rw [List.all_map]
  rfl
theorem ok_is_weaving (F : Fun K "is_weaving" "is_weaving" (top 14) f fd) (T : Txt mg) (C_is_list : Cl P w K mg base CX0 1 "is_list" (spList Tb)) (C_is_between : Cl P w K mg base CX0 2 "is_between" spBetween) :
    FnOk P w K mg base CX0 3 f fd ["thing"] (spIsWeaving Tb) := by
  refine F.ok sc_is_weaving (fun vs H Q E h => ?_) (fun cdv A outer s H vs Q E hr h => ?_)
  · obtain ⟨x, rfl, _⟩ := h
    rfl
  · obtain ⟨x, rfl, h⟩ := h
    refine ⟨_, 
      (pss_one (ps_ret (pe_and (cl0 C_is_list hr (by decide) (by rfl) (pa_cons (pv 0) pa_nil)) (pe_one (pe_callB (crAll K rfl) (by rfl) T.f_all (by decide +kernel) (pa_cons (pe_lc (own := [("item", 1)]) (by rfl) sc_is_weaving.nd (piSq K (pv 0)) (blkOk_by (by kernel_rfl)) (fun _ _ _ _ _ => (pg_name (i := 1) sc_is_weaving.nd rfl (by first | exact Or.inl rfl | exact Or.inr rfl))) (fun _ _ _ _ _ => pts_nil) (fun _ _ _ _ _ => (cl0 C_is_between hr (by decide) (by rfl) (pa_cons (pv 1) (pa_cons pe_int (pa_cons (pe_op op_sub (gI (by rfl) T.c_MOST_THREADS) pe_int) pa_nil)))))) pa_nil))))))
      , ?_⟩
    rcases h with ⟨t, ty, ht, k⟩ | ⟨a, xs, rfl, ha, hlen, hty, k⟩
    · refine ⟨_, rfl, x, t, rfl, ty, fun H1 f1 => ⟨_, rfl, ?_⟩⟩
      rw [ht]
      exact iteF (k H1 f1)
    · obtain ⟨t, ty, ht⟩ := ha.ty
      refine ⟨_, rfl, _, t, rfl, ty, fun H1 f1 => ⟨_, rfl, ?_⟩⟩
      rw [ht]
      refine iteT ?_
      have hs := ha.fr f1
      have body : ∀ D, H1 D = none → ∀ (i : Nat) (x : V), xs[i]? = some x → ∀ (Q1 : VK), Q1 (.bl (isTh x 3)) (upd H1 D (.lst (((xs.take i).map fun v => isTh v 3).map V.bl))) → spBetween [x, .int 0, .int 3] (upd H1 D (.lst (((xs.take i).map fun v => isTh v 3).map V.bl))) Q1 E0 := by
        intro D hD i x hx Q1 q
        obtain ⟨t, ty⟩ := hty x (List.mem_of_getElem? hx)
        exact ⟨x, 0, 3, rfl, between_th ((ty.fr f1).fr (Fr.new (T := Tb) hD)) q⟩
      have stp : ∀ D (i : Nat) (x : V), xs[i]? = some x → upd (upd H1 D (.lst (((xs.take i).map fun v => isTh v 3).map V.bl))) D (.lst ((((xs.take i).map fun v => isTh v 3).map V.bl) ++ [.bl (isTh x 3)])) = upd H1 D (.lst (((xs.take (i + 1)).map fun v => isTh v 3).map V.bl)) := by
        intro D i x hx
        rw [upd_upd, take_snoc hx, List.map_append, List.map_append]
        rfl
      have small : ∀ i : Nat, (((xs.take i).map fun v => isTh v 3).map V.bl).length < sizeLine := fun i => by
        rw [List.length_map, List.length_map, List.length_take]
        exact Nat.lt_of_le_of_lt (by omega : min i xs.length ≤ 100000) (by decide)
      rcases hs with hs | hs
      · refine .inl ⟨_, rfl, a, rfl, ⟨_, SqL.of hs⟩, fun D hD => lc_list (K := K) (a := a) (xs := xs) (fun i H' => H' = upd H1 D (.lst (((xs.take i).map fun v => isTh v 3).map V.bl))) rfl (fun i H' _ e => by
          rw [e]
          exact SqL.of (by rw [upd_ne (ne_of_none hs hD)]; exact hs)) ?_ ?_⟩
        · rintro i x H' hx rfl
          refine ⟨rfl, yes_lc ⟨_, rfl, 4, 1, rfl, rfl, ?_⟩⟩
          delta tNil
          dsimp only
          refine body D hD i x hx _ ?_
          exact ⟨_, upd_same, small i, stp D i x hx⟩
        · rintro H' rfl
          refine ⟨D, (xs.take xs.length).map fun v => isTh v 3, rfl, SqL.of upd_same, ?_⟩
          rw [all_map, List.take_length]
          exact k _ (f1.upd_new hD)
      · have hs : ∀ H2, Fr Tb [] H1 H2 → SqT K H2 a xs := fun H2 f2 => by
          rcases hs with hs | hs
          · exact SqT.of (f2.tup0 hs)
          · exact (f2.fz0 hs).sq
        refine .inr ⟨_, rfl, a, rfl, ⟨_, hs _ .refl⟩, fun D hD => lc_tup (K := K) (a := a) (xs := xs) (fun i H' => H' = upd H1 D (.lst (((xs.take i).map fun v => isTh v 3).map V.bl))) rfl (fun i H' _ e => by
          rw [e]
          exact hs _ (Fr.new hD)) ?_ ?_⟩
        · rintro i x H' hx rfl
          refine ⟨rfl, yes_lc ⟨_, rfl, 4, 1, rfl, rfl, ?_⟩⟩
          delta tNil
          dsimp only
          refine body D hD i x hx _ ?_
          exact ⟨_, upd_same, small i, stp D i x hx⟩
        · rintro H' rfl
          refine ⟨D, (xs.take xs.length).map fun v => isTh v 3, rfl, SqL.of upd_same, ?_⟩
          rw [all_map, List.take_length]
          exact k _ (f1.upd_new hD)
end
end K81
set_option maxHeartbeats 2000000
namespace K81
open PySem PySem.Spec PyProof.Rows L2 LamX K81M StX RZ
section
variable {P : Program} {w : World} {K : PySem.W.Frag} {mg : Str → Option Value} {base : Heap} {Tb : List (Addr × Str)} {f : Addr} {fd : FuncData} {CS cL cW cN cT : Addr}
theorem cutHi {xs : List V} {t : Nat} : cutV xs none (some (t : Int)) = xs.take t := by
  unfold cutV
  rw [show HT.sIx xs.length xs.length (some (t : Int)) = min t xs.length from HT.sIx_nat _ _ t]
  show (xs.drop 0).take (min t xs.length - 0) = _
  rw [List.drop_zero, Nat.sub_zero]
  by_cases h : t ≤ xs.length
  · rw [Nat.min_eq_left h]
  · rw [Nat.min_eq_right (by omega), List.take_length, List.take_of_length_le (by omega)]
theorem cutLo {xs : List V} {t : Nat} : cutV xs (some (t : Int)) none = xs.drop t := by
  unfold cutV
  rw [show HT.sIx xs.length 0 (some (t : Int)) = min t xs.length from HT.sIx_nat _ _ t]
  show (xs.drop (min t xs.length)).take (xs.length - min t xs.length) = _
  by_cases h : t ≤ xs.length
  · rw [Nat.min_eq_left h, List.take_of_length_le (by rw [List.length_drop]; exact Nat.le_refl _)]
  · rw [Nat.min_eq_right (by omega), List.drop_length, List.take_nil, List.drop_eq_nil_of_le (by omega)]
theorem slHi {K : PySem.W.Frag} {T : List (Addr × Str)} {H : Hp} {a : Addr} {vs : List V} {t : Nat} {Q : VK} (hv : SqT K H a vs) (q : ∀ b H3, Fr T [] H H3 → SqT K H3 b (vs.take t) → (H a = some (.tup vs) → H3 b = some (.tup (vs.take t))) → Q (.ref b) H3) : rSlA K (.ref a) none (some (t : Int)) H Q := by
  refine ⟨a, vs, rfl, hv, fun hw => ?_, fun hw p hp => ?_⟩
  · have e : vs.take t = vs := by
      have z : min t vs.length = vs.length := (HT.sIx_nat vs.length vs.length t).symm.trans hw.2
      exact List.take_of_length_le (by omega)
    exact q a H .refl (by rw [e]; exact hv) (by rw [e]; exact id)
  · rw [cutHi]
    exact q p _ (Fr.new hp) (SqT.of upd_same) fun _ => upd_same
theorem slLo {K : PySem.W.Frag} {T : List (Addr × Str)} {H : Hp} {a : Addr} {vs : List V} {t : Nat} {Q : VK} (hv : SqT K H a vs) (q : ∀ b H3, Fr T [] H H3 → SqT K H3 b (vs.drop t) → (H a = some (.tup vs) → H3 b = some (.tup (vs.drop t))) → Q (.ref b) H3) : rSlA K (.ref a) (some (t : Int)) none H Q := by
  refine ⟨a, vs, rfl, hv, fun hw => ?_, fun hw p hp => ?_⟩
  · have e : vs.drop t = vs := by
      have z : min t vs.length = 0 := (HT.sIx_nat vs.length 0 t).symm.trans hw.1
      by_cases ht : t = 0
      · rw [ht, List.drop_zero]
      · have : vs = [] := List.eq_nil_of_length_eq_zero (by omega)
        rw [this]; simp
    exact q a H .refl (by rw [e]; exact hv) (by rw [e]; exact id)
  · rw [cutLo]
    exact q p _ (Fr.new hp) (SqT.of upd_same) fun _ => upd_same
theorem bump_cut {d : List Nat} {t : Nat} (h : t < d.length) : d.take t ++ (at0 d t + 1) :: d.drop (t + 1) = bump d t := by
  unfold K81M.bump
  rw [List.set_eq_take_append_cons_drop, if_pos h]
theorem nIs_bump {d : List Nat} {t : Nat} (h : t < d.length) : (nIs d).take t ++ (V.int ((at0 d t : Int) + 1) :: (nIs d).drop (t + 1)) = nIs (bump d t) := by
  rw [← bump_cut h]
  simp [nIs]
/-! ### step_names -/
def spStepNames (Tb : List (Addr × Str)) : Sp := fun vs H Q _ => ∃ a l, vs = [.ref a] ∧ SqAt H a (nIs l) ∧ l.length ≤ 100000 ∧ (∀ t ∈ l, t < 4) ∧ ∀ H' p vs, Fr Tb [] H H' → H p = none → H' p = some (.lst vs) → Refs NmAt H' vs (names l) → Q (.ref p) H'
theorem sc_step_names : FnScope ["weaving", "counts", "found", "thread"] ["weaving"] (defScope (top 15)) := ⟨rfl, rfl, rfl, by decide +kernel, rfl, by decide +kernel, by decide +kernel⟩
theorem ok_step_names (F : Fun K "step_names" "step_names" (top 15) f fd) (T : Txt mg) : FnOk P w K mg base CX0 1 f fd ["weaving"] (spStepNames Tb) := by
  refine F.ok sc_step_names (fun vs H Q E h => ?_) (fun cdv A outer s H vs Q E hr h => ?_)
  · obtain ⟨a, l, rfl, _⟩ := h
    rfl
  · obtain ⟨a, l, rfl, h⟩ := h
    refine ⟨_, 
      (pss_cons (ps_par (i := 1) (j := 2) (by rfl) sc_step_names.nd rfl rfl (by decide) rfl rfl (pa_cons (pe_op op_rep (pe_lst (pa_cons pe_int pa_nil)) (gI (by rfl) T.c_MOST_THREADS)) (pa_cons (pe_lst pa_nil) pa_nil)) (by rfl))
      (pss_cons (ps_for PassesOwn.never rfl (piSq K (pv 0)) (pg_name (i := 3) sc_step_names.nd rfl (by first | exact Or.inl rfl | exact Or.inr rfl))
      (pss_cons (ps_expr (peBm K PySem.F.plainAttrs_list PySem.F.slot_list_append PySem.F.type_list_append mt_append (pv 2) (pa_cons (pe_tup (pa_cons (pv 3) (pa_cons (pe_ix (ixL K) (pv 1) (pv 3) (fun _ _ => rfl)) pa_nil))) pa_nil)))
      (pss_one (ps_augS (pv 1) (pv 3) (getL K) pe_int ip_add set_list))))
      (pss_one (ps_ret (pv 2)))))
      , ?_⟩
    obtain ⟨ha, hlen, h4, k⟩ := h
    refine ⟨by show 1 ≤ sizeLine; decide, fun l0 hl0 => ⟨l0, 4, _, rfl, rfl, upd_same, by decide, by decide, by decide, fun cp hcp => ⟨Nat.zero_le _, fun fp hfp => ⟨_, _, rfl, ?_⟩⟩⟩⟩
    have f0 : Fr Tb [] H (upd (upd (upd H l0 (.lst [.int 0])) cp (.lst (nIs zero4))) fp (.lst [])) := ((Fr.new hl0).upd_new hcp).upd_new hfp
    have ncf : cp ≠ fp := fun z => by rw [← z, upd_same] at hfp; cases hfp
    have c0 : H cp = none := (Fr.new (T := Tb) (S := []) hl0).free hcp
    have p0 : H fp = none := ((Fr.new (T := Tb) (S := []) hl0).upd_new hcp).free hfp
    have hc1 : upd (upd (upd H l0 (.lst [.int 0])) cp (.lst (nIs zero4))) fp (.lst []) cp = some (.lst (nIs zero4)) := by rw [upd_ne ncf, upd_same]
    have hf1 : upd (upd (upd H l0 (.lst [.int 0])) cp (.lst (nIs zero4))) fp (.lst []) fp = some (.lst []) := upd_same
    show tSeq _ _ _ _ (upd (upd (upd H l0 (.lst [.int 0])) cp (.lst (nIs zero4))) fp (.lst []))
    generalize upd (upd (upd H l0 (.lst [.int 0])) cp (.lst (nIs zero4))) fp (.lst []) = H1 at f0 hc1 hf1
    refine forSq (T := Tb) ha rfl (fun i σ H' => ∃ d vs x, σ = [some (.ref a), some (.ref cp), some (.ref fp), x] ∧ Fr Tb [] H H' ∧ H' cp = some (.lst (nIs d)) ∧ d.length = 4 ∧ H' fp = some (.lst vs) ∧ Refs NmAt H' vs ((names l).take i) ∧ (names l).drop i = namesF d (l.drop i)) ?_ (fun i σ' H' _ ⟨_, _, _, _, f, _⟩ => f) ?_ ?_
    · exact ⟨zero4, [], none, rfl, f0, hc1, rfl, hf1, .nil, rfl⟩
    · rintro i x σ H' hx ⟨d, vs, x0, rfl, f1, hc2, hd4, hf2, hR, hnm⟩
      obtain ⟨t, ht, rfl⟩ := nIs_at hx
      have t4 := h4 t (List.mem_of_getElem? ht)
      have hi := (List.getElem?_eq_some_iff.mp ht).1
      have hdrop : l.drop i = t :: l.drop (i + 1) := by
        rw [List.drop_eq_getElem_cons hi]
        congr 1
        have := ht
        rw [List.getElem?_eq_getElem hi] at this
        exact Option.some.inj this
      rw [hdrop] at hnm
      have hnm : (names l).drop i = (t, at0 d t) :: namesF (bump d t) (l.drop (i + 1)) := hnm
      have hni : (names l)[i]? = some (t, at0 d t) := by
        have z := congrArg (fun z => z[0]?) hnm
        simpa using z
      have vlen : vs.length = i := by
        rw [Paired.length hR, List.length_take]
        have z : (names l).length = l.length := namesF_length
        omega
      refine ⟨_, rfl, .inl ⟨rfl, vs, SqL.of hf2⟩, _, rfl, _, rfl, _, rfl, cp, _, _, _, rfl, rfl, SqL.of hc2, atI_nIs (by omega), (by show 2 ≤ sizeLine; decide), fun tp htp => ?_⟩
      have f2 : Fr Tb [] H (upd H' tp (.tup [nI t, nI (at0 d t)])) := f1.upd_new htp
      have ntf : fp ≠ tp := ne_of_none hf2 htp
      have hf3 : upd H' tp (.tup [nI t, nI (at0 d t)]) fp = some (.lst vs) := by rw [upd_ne ntf]; exact hf2
      have hc3 : upd H' tp (.tup [nI t, nI (at0 d t)]) cp = some (.lst (nIs d)) := by rw [upd_ne (ne_of_none hc2 htp)]; exact hc2
      have ht3 : NmAt (upd H' tp (.tup [nI t, nI (at0 d t)])) tp (t, at0 d t) := upd_same
      have hR3 : Refs NmAt (upd H' tp (.tup [nI t, nI (at0 d t)])) vs ((names l).take i) := hR.fr fun a x q => q.fr (Fr.new (T := Tb) htp)
      generalize upd H' tp (.tup [nI t, nI (at0 d t)]) = H3 at f2 hf3 hc3 ht3 hR3
      refine ⟨fp, vs, _, rfl, rfl, hf3, (by rw [vlen]; exact Nat.lt_of_lt_of_le (by omega : i < 100000) (by decide)), ?_⟩
      have keepN : ∀ b (n : Nm), NmAt H3 b n → NmAt (upd H3 fp (.lst (vs ++ [.ref tp]))) b n := fun b n z => by
        unfold NmAt at z ⊢
        rw [upd_ne (ne_of z hf3 (by intro y; cases y))]
        exact z
      have f4 : Fr Tb [] H (upd H3 fp (.lst (vs ++ [.ref tp]))) := f2.lstw (.inl p0) hf3
      have hc4 : upd H3 fp (.lst (vs ++ [.ref tp])) cp = some (.lst (nIs d)) := by rw [upd_ne ncf]; exact hc3
      have hf4 : upd H3 fp (.lst (vs ++ [.ref tp])) fp = some (.lst (vs ++ [.ref tp])) := upd_same
      have hR4 : Refs NmAt (upd H3 fp (.lst (vs ++ [.ref tp]))) (vs ++ [.ref tp]) ((names l).take (i + 1)) := by
        rw [take_snoc hni]
        exact Paired.snoc ⟨tp, rfl, keepN _ _ ht3⟩ (hR3.fr keepN)
      generalize upd H3 fp (.lst (vs ++ [.ref tp])) = H4 at f4 hc4 hf4 hR4
      refine ⟨_, rfl, _, rfl, cp, _, t, nI (at0 d t), rfl, rfl, SqL.of hc4, by omega, ?_, ?_⟩
      · show (nIs d)[t]? = some (nI (at0 d t))
        rw [List.getElem?_map, List.getElem?_eq_getElem (by omega)]
        unfold at0
        rw [List.getD_eq_getElem?_getD, List.getElem?_eq_getElem (by omega)]
        rfl
      refine ⟨_, _, rfl, rfl, cp, _, t, t, rfl, rfl, hc4, ?_, ?_⟩
      · rw [List.length_map, hd4]
        unfold ixN
        rw [if_pos (by omega), if_pos (by omega)]
        rfl
      have e5 : (nIs d).set t (V.int ((at0 d t : Int) + 1)) = nIs (bump d t) := by
        rw [show V.int ((at0 d t : Int) + 1) = nI (at0 d t + 1) by simp [nI], nIs_set]
        rfl
      rw [e5]
      refine ⟨bump d t, vs ++ [.ref tp], some (nI t), rfl, f4.lstw (.inl c0) hc4, upd_same, by rw [bump_length]; exact hd4, by rw [upd_ne ncf.symm]; exact hf4, hR4.fr fun b n z => ?_, ?_⟩
      · unfold NmAt at z ⊢
        rw [upd_ne (ne_of z hc4 (by intro y; cases y))]
        exact z
      · have z := congrArg List.tail hnm
        rw [List.tail_drop] at z
        exact z
    · rintro σ H' ⟨d, vs, x0, rfl, f1, hc2, hd4, hf2, hR, hnm⟩
      refine ⟨_, rfl, k H' fp vs f1 p0 hf2 ?_⟩
      rw [show (nIs l).length = (names l).length by rw [List.length_map]; exact namesF_length.symm, List.take_length] at hR
      exact hR
/-! ### need_ledger -/
def spNeedLedger (Tb : List (Addr × Str)) (cL : Addr) : Sp := fun vs H Q E => ∃ x, vs = [x] ∧ ((∃ a c En, x = .ref a ∧ LedAt H a c En ∧ LedOk c En ∧ ∀ H', Fr Tb [] H H' → Q .non H') ∨ (Odd H x ∧ ∀ H', Fr Tb [] H H' → E (.ref cL) none H'))
theorem sc_need_ledger : FnScope ["ledger"] ["ledger"] (defScope (top 26)) := ⟨rfl, rfl, rfl, by decide +kernel, rfl, by decide +kernel, by decide +kernel⟩
theorem ok_need_ledger (F : Fun K "need_ledger" "need_ledger" (top 26) f fd) (T : Txt mg) (X_BadLedger : Ex1 K mg CS "BadLedger" cL) (C_is_ledger : Cl P w K mg base CX0 5 "is_ledger" (spIsLedger Tb)) : FnOk P w K mg base (L2.CX P w) 6 f fd ["ledger"] (spNeedLedger Tb cL) := by
  refine F.okX sc_need_ledger (fun vs H Q E h => ?_) (fun cdv A outer s H vs Q E hr h => ?_)
  · obtain ⟨a, rfl, _⟩ := h
    rfl
  · obtain ⟨x, rfl, h⟩ := h
    refine ⟨_, 
      (pss_one (ps_if (pt_not (pt_val (cl0 C_is_ledger hr (by decide) (by rfl) (pa_cons (pv 0) pa_nil))))
      (pss_one (ps_raise rfl (takes_of rfl rfl rfl rfl) (Ex1.mk' X_BadLedger (by rfl)))) pss_nil))
      , ?_⟩
    refine ⟨_, rfl, ?_⟩
    delta tNil
    dsimp only
    rcases h with ⟨a, c, En, rfl, h1, h2, k⟩ | ⟨ho, k⟩
    · exact ⟨_, rfl, .inl ⟨a, c, En, rfl, h1, h2, fun H' f => ⟨_, rfl, iteF (k _ f)⟩⟩⟩
    · exact ⟨_, rfl, .inr ⟨ho, fun H' f => ⟨_, rfl, iteT (k _ f)⟩⟩⟩
/-! ### is_kept_by -/
theorem merge_get : ∀ (ns : List Nm) (st : Nat) (acc : List (List Key × V)) (n : Nm), ns.Nodup → valV ((ns.zipIdx st).foldl (fun acc r => putK acc (nk r.1) (nI r.2)) acc) (nk n) = if n ∈ ns then some (nI (st + ns.idxOf n)) else valV acc (nk n)
  | [], st, acc, n, _ => by simp
  | m :: ns, st, acc, n, h => by
    obtain ⟨h1, h2⟩ := List.nodup_cons.mp h
    rw [List.zipIdx_cons, List.foldl_cons, merge_get ns (st + 1) _ n h2]
    by_cases e : n = m
    · subst e
      rw [if_neg h1, valV_put, if_pos rfl, if_pos List.mem_cons_self, idxOf_cons_self', Nat.add_zero]
    · have e' : ¬ m = n := fun z => e z.symm
      by_cases hm : n ∈ ns
      · rw [if_pos hm, if_pos (List.mem_cons_of_mem _ hm), idxOf_cons_ne' _ e]
        congr 2
        omega
      · rw [if_neg hm, if_neg (by simp [e, hm]), valV_put, if_neg (fun z => e (nk_inj z))]
theorem merge_rows (rows : List Row) (l : List (Nm × Nat)) (h : rows.map (fun r => (r.1, r.2.2)) = l.map fun r => (nk r.1, nI r.2)) : mergeT rows = l.foldl (fun acc r => putK acc (nk r.1) (nI r.2)) [] := by
  have e1 : mergeT rows = (rows.map (fun r => (r.1, r.2.2))).foldl (fun acc r => putK acc r.1 r.2) [] := by
    unfold mergeT
    rw [List.foldl_map]
  rw [e1, h, List.foldl_map]
theorem count_cast (l : List Nat) (t : Nat) : (l.map fun n : Nat => (n : Int)).count (t : Int) = l.count t := by
  induction l with
  | nil => rfl
  | cons n l ih =>
    rw [List.map_cons, List.count_cons, List.count_cons, ih]
    by_cases h : n = t
    · subst h; simp
    · have h' : ¬ (n : Int) = (t : Int) := by omega
      simp [h, h']
theorem at0_counts {l : List Nat} {t : Nat} (h : t < 4) : at0 (countsOf l) t = l.count t := by
  rcases lt4 h with rfl | rfl | rfl | rfl <;> rfl
theorem range4 (l : List Nat) : (List.range 4).map (fun t => l.count t) = countsOf l := rfl
def LedIn (H : Hp) (a : Addr) (c : List Nat) (E : List En) : Prop := LedAt H a c E ∧ LedOk c E
def spIsKept (Tb : List (Addr × Str)) : Sp := fun vs H Q _ => ∃ a b c En l, vs = [.ref a, .ref b] ∧ LedAt H a c En ∧ LedOk c En ∧ WvAt H b l ∧ l.length ≤ 100000 ∧ (∀ t ∈ l, t < 4) ∧ ∀ H', Fr Tb [] H H' → Q (.bl (KeptB c En l)) H'
theorem sc_is_kept_by : FnScope ["ledger", "weaving", "places", "place", "name", "thread", "one", "other"] ["ledger", "weaving"] (defScope (top 27)) := ⟨rfl, rfl, rfl, by decide +kernel, rfl, by decide +kernel, by decide +kernel⟩
theorem ok_is_kept_by (F : Fun K "is_kept_by" "is_kept_by" (top 27) f fd) (T : Txt mg) (C_step_names : Cl P w K mg base CX0 1 "step_names" (spStepNames Tb)) : FnOk P w K mg base CX0 2 f fd ["ledger", "weaving"] (spIsKept Tb) := by
  refine F.ok sc_is_kept_by (fun vs H Q E h => ?_) (fun cdv A outer s H vs Q E hr h => ?_)
  · obtain ⟨a, b, c, En, l, rfl, _⟩ := h
    rfl
  · obtain ⟨a, b, c, En, l, rfl, h⟩ := h
    refine ⟨_, 
      (pss_cons (ps_set (i := 2) sc_is_kept_by.nd rfl (by first | exact Or.inl rfl | exact Or.inr rfl) (pe_callTy (ckDict K rfl hr.units) (by rfl) T.f_dict (by decide +kernel) (pa_cons (pe_lc (own := [("place", 3), ("name", 4)]) (by rfl) sc_is_kept_by.nd (pi_enum (by rfl) T.f_enumerate (pa_cons (cl0 C_step_names hr (by decide) (by rfl) (pa_cons (pv 1) pa_nil)) pa_nil)) (blkOk_by (by kernel_rfl)) (fun _ _ _ _ _ => (pgT (n := 2) K (by rfl) (pgs_cons (pg_name (i := 3) sc_is_kept_by.nd rfl (by first | exact Or.inl rfl | exact Or.inr rfl)) (pgs_cons (pg_name (i := 4) sc_is_kept_by.nd rfl (by first | exact Or.inl rfl | exact Or.inr rfl)) pgs_nil)))) (fun _ _ _ _ _ => pts_nil) (fun _ _ _ _ _ => (pe_tup (pa_cons (pv 4) (pa_cons (pv 3) pa_nil))))) pa_nil)))
      (pss_cons (ps_if (pt_cmpR (opNe K hr.units) (pe_callTy (crTupOf K) (by rfl) T.f_tuple (by decide +kernel) (pa_cons (pe_lc (own := [("thread", 5)]) (by rfl) sc_is_kept_by.nd (pi_range1 (by rfl) T.f_range (pa_cons (gI (by rfl) T.c_MOST_THREADS) pa_nil)) (blkOk_by (by kernel_rfl)) (fun _ _ _ _ _ => (pg_name (i := 5) sc_is_kept_by.nd rfl (by first | exact Or.inl rfl | exact Or.inr rfl))) (fun _ _ _ _ _ => pts_nil) (fun _ _ _ _ _ => (PE_or (peBm K PySem.F.plainAttrs_list PySem.F.slot_list_count PySem.F.type_list_count (mtCnt K) (pv 1) (pa_cons (pv 5) pa_nil)) (pe_tcount (pv 1) (pa_cons (pv 5) pa_nil))))) pa_nil)) (pe_ix (ixT K) (pv 0) pe_int (fun _ _ => rfl)) (nomark _))
      (pss_one (ps_ret pe_bl)) pss_nil)
      (pss_one (ps_ret (pe_callB (crAll K rfl) (by rfl) T.f_all (by decide +kernel) (pa_cons (pe_lc (own := [("one", 6), ("other", 7)]) (by rfl) sc_is_kept_by.nd (piT K (pe_ix (ixT K) (pv 0) pe_int (fun _ _ => rfl))) (blkOk_by (by kernel_rfl)) (fun _ _ _ _ _ => (pgT (n := 2) K (by rfl) (pgs_cons (pg_name (i := 6) sc_is_kept_by.nd rfl (by first | exact Or.inl rfl | exact Or.inr rfl)) (pgs_cons (pg_name (i := 7) sc_is_kept_by.nd rfl (by first | exact Or.inl rfl | exact Or.inr rfl)) pgs_nil)))) (fun _ _ _ _ _ => pts_nil) (fun _ _ _ _ _ => (pe_cmpR op_lt (pe_dget (hu_of hr) (pv 2) (pv 6) (fun _ _ => rfl)) (pe_dget (hu_of hr) (pv 2) (pv 7) (fun _ _ => rfl)) (nomark _)))) pa_nil))))))
      , ?_⟩
    obtain ⟨⟨ca, ea, vs, hL1, hL2, hL3, hL4⟩, ok, hw, hlen, h4, k⟩ := h
    have hnd : (names l).Nodup := namesF_nodup rfl h4
    have hnl : (names l).length = l.length := namesF_length
    refine ⟨_, rfl, b, l, rfl, hw.sq, hlen, h4, fun H1 sp ns f1 sp0 hsp hR => ⟨sp, ns, rfl, SqL.of hsp, fun D hD => ?_⟩⟩
    have nlen : ns.length = l.length := by rw [Paired.length hR, hnl]
    refine lc_it (walk_enum (K := K) (a := sp) (xs := ns)) (fun i H' => Fr Tb [] H1 H' ∧ ∃ ps rows, H' D = some (.lst (List.map V.ref ps)) ∧ Paired (fun p (r : Row) => H' p = some (.tup [.ref r.2.1, r.2.2]) ∧ H' r.2.1 = some (.tup (r.1.map kV))) ps rows ∧
      rows.map (fun r => (r.1, r.2.2)) = ((names l).take i).zipIdx.map fun r => (nk r.1, nI r.2)) ⟨Fr.new hD, [], [], upd_same, .nil, rfl⟩ (fun i H' _ q => SqL.of (q.1.lst0 hsp)) ?_ ?_
    · rintro i x H2 H3 hi ⟨f2, ps, rows, hD2, hP, hrows⟩ ⟨T, y1, y2, rfl, hT, rfl, e1, e2⟩
      cases e1
      obtain ⟨n, hn, p, rfl, hp⟩ := Paired.at hR e2
      have plen : ps.length = i := by
        have z1 := Paired.length hP
        have z2 := congrArg List.length hrows
        rw [List.length_map, List.length_map, List.length_zipIdx, List.length_take] at z2
        omega
      have f3 : Fr Tb [] H1 (upd H2 T (.tup [.int (i : Nat), .ref p])) := f2.upd_new hT
      refine ⟨T, _, rfl, SqT.of upd_same, rfl, _, _, rfl, _, _, rfl, rfl, rfl, yes_lc ⟨_, rfl, _, rfl, (by show 2 ≤ sizeLine; decide), fun q hq => ?_⟩⟩
      have f4 : Fr Tb [] H1 (upd (upd H2 T (.tup [.int (i : Nat), .ref p])) q (.tup [.ref p, .int (i : Nat)])) := f3.upd_new hq
      have e4 : Fr Tb [] H2 (upd (upd H2 T (.tup [.int (i : Nat), .ref p])) q (.tup [.ref p, .int (i : Nat)])) := (Fr.new hT).upd_new hq
      have hD4 := e4.lst0 hD2
      have hq4 : upd (upd H2 T (.tup [.int (i : Nat), .ref p])) q (.tup [.ref p, .int (i : Nat)]) q = some (.tup [.ref p, .int (i : Nat)]) := upd_same
      have hp4 := (hp.fr f2).fr e4
      have hP4 : Paired (fun p' (r : Row) => upd (upd H2 T (.tup [.int (i : Nat), .ref p])) q (.tup [.ref p, .int (i : Nat)]) p' = some (.tup [.ref r.2.1, r.2.2]) ∧ upd (upd H2 T (.tup [.int (i : Nat), .ref p])) q (.tup [.ref p, .int (i : Nat)]) r.2.1 = some (.tup (r.1.map kV))) ps rows := Paired.mapP hP fun a r ⟨g1, g2⟩ => ⟨e4.tup0 g1, e4.tup0 g2⟩
      generalize upd (upd H2 T (.tup [.int (i : Nat), .ref p])) q (.tup [.ref p, .int (i : Nat)]) = H4 at f4 e4 hD4 hq4 hp4 hP4
      have keepT : ∀ a xs, H4 a = some (.tup xs) → upd H4 D (.lst (List.map V.ref ps ++ [.ref q])) a = some (.tup xs) := fun a xs z => by
        rw [upd_ne (ne_of z hD4 (by intro y; cases y))]
        exact z
      refine ⟨_, hD4, (by rw [List.length_map, plen]; exact Nat.lt_of_lt_of_le (by omega : i < 100000) (by decide)), f4.lstw (.inl hD) hD4, ps ++ [q], rows ++ [(nk n, p, .int (i : Nat))], by rw [upd_same, List.map_append]; rfl, ?_, ?_⟩
      · refine Paired.snoc ⟨keepT _ _ hq4, keepT _ _ hp4⟩ (Paired.mapP hP4 fun a r ⟨g1, g2⟩ => ⟨keepT _ _ g1, keepT _ _ g2⟩)
      · rw [List.map_append, hrows, take_snoc hn, List.zipIdx_append, List.map_append]
        congr 1
        have : (List.take i (names l)).length = i := by rw [List.length_take]; omega
        simp [this]
    · rintro H2 ⟨f2, ps, rows, hD2, hP, hrows⟩
      rw [show ns.length = (names l).length by omega, List.take_length] at hrows
      have hget : ∀ n ∈ names l, valV (mergeT rows) (nk n) = some (nI ((names l).idxOf n)) := fun n hn => by
        rw [merge_rows rows _ hrows, merge_get _ _ _ _ hnd, if_pos hn, Nat.zero_add]
      refine ⟨D, ps, rows, rfl, SqL.of hD2, hP, fun dp hdp => ?_⟩
      have f3 : Fr Tb [] H (upd H2 dp (.dT (mergeT rows))) := (f1.trans f2).upd_new hdp
      have hd3 : upd H2 dp (.dT (mergeT rows)) dp = some (.dT (mergeT rows)) := upd_same
      generalize upd H2 dp (.dT (mergeT rows)) = H3 at f3 hd3
      -- the counts
      refine ⟨4, rfl, by decide, by decide, fun D2 hD2 => lc_range (lo := 0) (n := 4) (fun i H' => Fr Tb [] H3 H' ∧ H' D2 = some (.lst (nIs (((List.range 4).take i).map fun t => l.count t)))) ⟨Fr.new hD2, upd_same⟩ ?_ ?_⟩
      · rintro i H' hi ⟨f4, hL⟩
        have ev : V.int (0 + (i : Int)) = nI i := by rw [Int.zero_add]
        refine ⟨rfl, yes_lc ?_⟩
        rw [ev]
        have hw4 := (hw.fr f3).fr f4
        have fin : ∀ acc, acc = nIs (((List.range 4).take i).map fun t => l.count t) → ∃ acc', H' D2 = some (.lst acc') ∧ acc'.length < sizeLine ∧ (Fr Tb [] H3 (upd H' D2 (.lst (acc' ++ [V.int ((l.count i : Nat) : Int)]))) ∧ upd H' D2 (.lst (acc' ++ [V.int ((l.count i : Nat) : Int)])) D2 = some (.lst (nIs (((List.range 4).take (i + 1)).map fun t => l.count t)))) := fun acc e => by
          refine ⟨acc, by rw [e]; exact hL, ?_, f4.lstw (.inl hD2) hL, ?_⟩
          · rw [e, List.length_map, List.length_map, List.length_take]
            exact Nat.lt_of_le_of_lt (Nat.min_le_left _ _) (Nat.lt_of_lt_of_le hi (by decide))
          · rw [upd_same, e, take_snoc (List.getElem?_range hi)]
            simp [nIs]
        rcases hw4 with hw4 | hw4
        · refine .inl ⟨_, rfl, .inl ⟨rfl, _, SqL.of hw4⟩, _, rfl, b, l.map fun n : Nat => (n : Int), (i : Int), rfl, rfl, SqL.of (by rw [← nIs_int]; exact hw4), ?_⟩
          rw [count_cast]
          exact fin _ rfl
        · refine .inr ⟨_, rfl, b, l.map fun n : Nat => (n : Int), rfl, by rw [← nIs_int]; exact hw4, _, rfl, (i : Int), rfl, by rw [← nIs_int]; exact hw4, ?_⟩
          rw [count_cast]
          exact fin _ rfl
      · rintro H' ⟨f4, hL⟩
        rw [show (List.range 4).take 4 = List.range 4 from rfl, range4] at hL
        refine ⟨D2, _, rfl, .inl ⟨SqL.of hL, fun tp htp => ?_⟩⟩
        have f5 : Fr Tb [] H (upd H' tp (.tup (nIs (countsOf l)))) := (f3.trans f4).upd_new htp
        have f35 : Fr Tb [] H3 (upd H' tp (.tup (nIs (countsOf l)))) := f4.upd_new htp
        have ht5 : upd H' tp (.tup (nIs (countsOf l))) tp = some (.tup (nIs (countsOf l))) := upd_same
        generalize upd H' tp (.tup (nIs (countsOf l))) = H5 at f5 f35 ht5
        refine ⟨_, rfl, a, _, 0, _, rfl, rfl, SqT.of (f5.tup0 hL1), rfl, ?_⟩
        refine ⟨.tuple (nD (countsOf l)), .tuple (nD c), .tup (SqT.of ht5) (dpN _), .tup (SqT.of (f5.tup0 hL2)) (dpN _), shapedT _, shapedT _, ?_⟩
        rw [eqvT]
        by_cases hc : countsOf l = c
        · rw [decide_eq_true hc]
          refine ⟨_, rfl, iteF ?_⟩
          have hin : ∀ e ∈ En, e.1 ∈ names l ∧ e.2 ∈ names l := fun e he => by
            obtain ⟨⟨g1, g2⟩, g3, g4⟩ := ok.ents e he
            rw [← hc, at0_counts g1] at g2
            rw [← hc, at0_counts g3] at g4
            exact ⟨namesF_mem rfl h4 _ g1 (by rw [at0_zero]; omega) (by rw [at0_zero]; omega), namesF_mem rfl h4 _ g3 (by rw [at0_zero]; omega) (by rw [at0_zero]; omega)⟩
          refine ⟨_, rfl, a, _, 1, _, rfl, rfl, SqT.of (f5.tup0 hL1), rfl, ea, rfl, ⟨_, SqT.of (f5.tup0 hL3)⟩, fun D3 hD3 => lc_tup (K := K) (a := ea) (xs := vs) (fun i H' => H' = upd H5 D3 (.lst (((En.take i).map fun e => decide ((names l).idxOf e.1 < (names l).idxOf e.2)).map V.bl))) rfl (fun i H' _ e => by
            rw [e]
            exact SqT.of (by rw [upd_ne (ne_of_none (f5.tup0 hL3) hD3)]; exact f5.tup0 hL3)) ?_ ?_⟩
          · rintro i x H' hx rfl
            obtain ⟨e, he, ep, rfl, p, q, g1, g2, g3⟩ := Paired.at hL4 hx
            have f6 : Fr Tb [] H (upd H5 D3 (.lst (((En.take i).map fun e => decide ((names l).idxOf e.1 < (names l).idxOf e.2)).map V.bl))) := f5.upd_new hD3
            have hd6 : upd H5 D3 (.lst (((En.take i).map fun e => decide ((names l).idxOf e.1 < (names l).idxOf e.2)).map V.bl)) dp = some (.dT (mergeT rows)) := (f35.upd_new hD3).ext _ _ hd3 (by simp) fun _ z => (by cases z)
            obtain ⟨m1, m2⟩ := hin e (List.mem_of_getElem? he)
            refine ⟨ep, _, rfl, SqT.of (f6.tup0 g1), rfl, _, _, rfl, _, _, rfl, rfl, rfl, yes_lc ?_⟩
            refine ⟨_, rfl, _, rfl, dp, nI ((names l).idxOf e.1), rfl, ?_, ?_⟩
            · rw [← hget _ m1]
              exact DGet.t hd6 (g2.fr f6)
            refine ⟨_, rfl, _, rfl, dp, nI ((names l).idxOf e.2), rfl, ?_, ?_⟩
            · rw [← hget _ m2]
              exact DGet.t hd6 (g3.fr f6)
            refine ⟨_, _, rfl, rfl, _, upd_same, ?_, ?_⟩
            · have hi := (List.getElem?_eq_some_iff.mp he).1
              have := ok.few
              rw [List.length_map, List.length_map, List.length_take]
              exact Nat.lt_of_le_of_lt (by omega : min i En.length ≤ 1000) (by decide)
            · rw [upd_upd, take_snoc he, List.map_append, List.map_append]
              have ee : decide ((((names l).idxOf e.1 : Nat) : Int) < (((names l).idxOf e.2 : Nat) : Int)) = decide ((names l).idxOf e.1 < (names l).idxOf e.2) := by
                by_cases z : (names l).idxOf e.1 < (names l).idxOf e.2
                · rw [decide_eq_true z, decide_eq_true (by omega)]
                · rw [decide_eq_false z, decide_eq_false (by omega)]
              show upd H5 D3 (.lst (_ ++ [V.bl (decide ((((names l).idxOf e.1 : Nat) : Int) < (((names l).idxOf e.2 : Nat) : Int)))])) = _
              rw [ee]
              rfl
          · rintro H' rfl
            refine ⟨D3, _, rfl, SqL.of upd_same, ?_⟩
            rw [show vs.length = En.length from Paired.length hL4, List.take_length, all_map]
            have z := k _ (f5.upd_new (o := .lst ((En.map fun e => decide ((names l).idxOf e.1 < (names l).idxOf e.2)).map V.bl)) hD3)
            unfold KeptB at z
            rw [decide_eq_true hc, Bool.true_and] at z
            exact z
        · rw [decide_eq_false hc]
          refine ⟨_, rfl, iteT ?_⟩
          have z := k _ f5
          unfold KeptB at z
          rw [decide_eq_false hc, Bool.false_and] at z
          exact z
/-! ### need_few_stands -/
def spFew (cT : Addr) : Sp := fun vs H Q E => ∃ a c, vs = [.ref a] ∧ H a = some (.tup (nIs c)) ∧ c.length = 4 ∧ (∀ n ∈ c, n ≤ 2000) ∧
  ((c.map (· + 1)).prod ≤ 20000 → Q .non H) ∧ (20000 < (c.map (· + 1)).prod → ∀ d, H d = none → E (.ref cT) (some d) (upd H d (.xd [("most", .int 20000)])))
theorem sc_need_few_stands : FnScope ["counts", "found", "count"] ["counts"] (defScope (top 30)) := ⟨rfl, rfl, rfl, by decide +kernel, rfl, by decide +kernel, by decide +kernel⟩
theorem ok_need_few_stands (F : Fun K "need_few_stands" "need_few_stands" (top 30) f fd) (T : Txt mg) (X_TooMany : Ex2 P w K mg base CS "TooMany" "most" cT) : FnOk P w K mg base (L2.CX P w) 3 f fd ["counts"] (spFew cT) := by
  refine F.okX sc_need_few_stands (fun vs H Q E h => ?_) (fun cdv A outer s H vs Q E hr h => ?_)
  · obtain ⟨a, c, rfl, _⟩ := h
    rfl
  · obtain ⟨a, c, rfl, h⟩ := h
    refine ⟨_, 
      (pss_cons (ps_set (i := 1) sc_need_few_stands.nd rfl (by first | exact Or.inl rfl | exact Or.inr rfl) pe_int)
      (pss_cons (PS_nox (ps_for PassesOwn.never rfl (piT K (pv 0)) (pg_name (i := 2) sc_need_few_stands.nd rfl (by first | exact Or.inl rfl | exact Or.inr rfl))
      (pss_one (ps_aug (i := 1) sc_need_few_stands.nd rfl (by first | exact Or.inl rfl | exact Or.inr rfl) (pe_op op_add (pv 2) pe_int) ip_mulI))))
      (pss_one (ps_if (pt_cmpR op_gt (pv 1) (gI (by rfl) T.c_MOST_STANDS) (nomark _))
      (pss_one (ps_raise rfl (takes_of rfl rfl rfl rfl) (Ex2.mk' X_TooMany hr (by decide) (by rfl) (pa_cons (gI (by rfl) T.c_MOST_STANDS) pa_nil)))) pss_nil))))
      , ?_⟩
    obtain ⟨ha, hc4, hc, k1, k2⟩ := h
    refine ⟨_, rfl, a, rfl, ⟨_, SqT.of ha⟩, for_tup (K := K) (a := a) (xs := nIs c) (fun i σ H' => ∃ x, σ = [some (.ref a), some (nI ((c.take i).map (· + 1)).prod), x] ∧ H' = H) ⟨none, rfl, rfl⟩ (fun i σ H' _ ⟨_, _, e⟩ => by rw [e]; exact SqT.of ha) ?_ ?_⟩
    · rintro i x σ H' hx ⟨x0, rfl, rfl⟩
      obtain ⟨n, hn, rfl⟩ := nIs_at hx
      have hle := hc n (List.mem_of_getElem? hn)
      refine ⟨_, rfl, _, rfl, _, _, rfl, rfl, _, _, rfl, rfl, ⟨by omega, by omega⟩, some (nI n), ?_, rfl⟩
      rw [take_snoc hn, List.map_append, List.prod_append]
      simp [nI]
    · rintro σ H' ⟨x0, rfl, rfl⟩
      rw [show (nIs c).length = c.length from List.length_map _, List.take_length]
      refine ⟨_, rfl, _, _, rfl, rfl, _, rfl, ?_⟩
      by_cases hp : (c.map (· + 1)).prod ≤ 20000
      · rw [decide_eq_false (by omega)]
        exact iteF (k1 hp)
      · rw [decide_eq_true (by omega)]
        refine iteT ?_
        exact mkO (k2 (by omega))
/-! ### stepped_stand -/
def spStepped (Tb : List (Addr × Str)) : Sp := fun vs H Q _ => ∃ a d t, vs = [.ref a, nI t] ∧ H a = some (.tup (nIs d)) ∧ d.length = 4 ∧ t < 4 ∧ ∀ H' p, Fr Tb [] H H' → H p = none → H' p = some (.tup (nIs (bump d t))) → Q (.ref p) H'
theorem sc_stepped_stand : FnScope ["stand", "thread"] ["stand", "thread"] (defScope (top 32)) := ⟨rfl, rfl, rfl, by decide +kernel, rfl, by decide +kernel, by decide +kernel⟩
theorem ok_stepped_stand (F : Fun K "stepped_stand" "stepped_stand" (top 32) f fd) (T : Txt mg) : FnOk P w K mg base CX0 1 f fd ["stand", "thread"] (spStepped Tb) := by
  refine F.ok sc_stepped_stand (fun vs H Q E h => ?_) (fun cdv A outer s H vs Q E hr h => ?_)
  · obtain ⟨a, d, t, rfl, _⟩ := h
    rfl
  · obtain ⟨a, d, t, rfl, h⟩ := h
    refine ⟨_, 
      (pss_one (ps_ret (pe_tup (paS K (pe_slice (slT K) (pv 0) po_none (po_some (pv 1))) (pa_cons (pe_op op_add (pe_ix (ixT K) (pv 0) (pv 1) (fun _ _ => rfl)) pe_int) (paS K (pe_slice (slT K) (pv 0) (po_some (pe_op op_add (pv 1) pe_int)) po_none) pa_nil))))))
      , ?_⟩
    obtain ⟨ha, h4, ht, k⟩ := h
    refine ⟨_, rfl, _, rfl, ?_⟩
    delta tNoPart
    dsimp only
    refine ⟨_, rfl, slHi (T := Tb) (SqT.of ha) fun b H1 f1 hb1 hb => ?_⟩
    have hb := hb ha
    have ha1 := f1.tup0 ha
    refine ⟨b, _, rfl, .inl (SqT.of hb), _, rfl, _, rfl, ⟨a, _, _, _, rfl, rfl, SqT.of ha1, atI_nIs (by omega), _, _, rfl, rfl, _, rfl, _, rfl, _, _, rfl, rfl, _, rfl, ?_⟩⟩
    dsimp only
    refine slLo (T := Tb) (t := t + 1) (SqT.of ha1) fun b2 H2 f2 hb2 hb3 => ?_
    have hb3 := hb3 ha1
    refine ⟨b2, _, rfl, .inl (SqT.of hb3), ?_⟩
    delta tNil
    dsimp only
    rw [List.append_nil, nIs_bump (by omega)]
    refine ⟨?_, fun p hp => k _ _ ((f1.trans f2).upd_new hp) ((f1.trans f2).free hp) upd_same⟩
    rw [List.length_map, bump_length, h4]
    decide
end
end K81
set_option maxHeartbeats 2000000
/-! sorted(xs, key=lambda t: 0 - sum(t)), xs a list of tuples of numbers. -/
namespace K81
open PySem PySem.Spec PyProof.Rows L2 LamX K81M StX RZ
section
variable {P : Program} {w : World} {A : Around} {h : Heap} {g : Array GenState} {d : Drawn} {tk : Nat} {os : OsState} {mg : Str → Option Value}
/-- a turn of the key -/
theorem key_turn {f t c' : Addr} {q x : Str} {params : Arguments} {scope : Scope} {pm ctv : Value} {its : List Value} {ns : List Int} {j : Nat} {p1 p2 p3 p4 p5 : Pos}
    (hf : h.get? f = some (PySem.W.kla_obj "<lambda>" q params (.BinOp (.Constant (.int 0) j p1) .Sub (.Call (.Name "sum" p2) [.Name x p3] [] p4) p5) scope [] pm c' ctv)) (hc : h.CodeRec (.ref c') q) (hr : A.depth < recursionLimit) (hh : A.handled = none)
    (hk : scope.kind = .function) (hco : scope.isCoroutine = false) (hgen : scope.isGenerator = false) (hcell : ∀ y ∈ scope.names, y.2 ≠ .cell) (hx : scope.names.lookup x = some .local) (hs : scope.names.lookup ("sum" : Str) = some .globalImplicit) (hxd : (x == ("__debug__" : Str)) = false)
    (hbind : ∀ v, bindArgs (PySem.W.kla_fn "<lambda>" q params (.BinOp (.Constant (.int 0) j p1) .Sub (.Call (.Name "sum" p2) [.Name x p3] [] p4) p5) scope [] pm (.ref c') ctv) ⟨[v], []⟩ = pure [(x, v)])
    (lim : h.NoLimit) (hg : h.Ns mainGlobals mg) (hm : mg "sum" = none) (hb : ∃ mb, h.Ns builtinsNs mb ∧ mb "sum" = some (.builtin "sum")) (ht : h.IsTuple t its.toArray) (hi : IntsAre its ns) :
    wpAny (model P w) A (call (.ref f) [.ref t]) (PySem.W.KeyPure (.int (0 - ns.sum)) ⟨h, g, d, tk, os⟩) (fun _ _ => False) ⟨h, g, d, tk, os⟩ := by
  obtain ⟨mb, b1, b2⟩ := hb
  refine wpAny_call (PySem.W.kla_callFunE hr hf rfl hco hgen rfl hc ?_)
  rw [hbind]
  refine wpAny_pure (wpAny_newFunctionEnv hcell (fun y hy => ?_) (fun h₁ hns hsb => ⟨lim.fresh _ hsb, ?_⟩) hk)
  · have : y = (x, .ref t) := by simpa using hy
    rw [this]
    exact hx
  have kp : ∀ b o, h.get? b = some o → h₁.get? b = some o := fun b o e => hsb.extBut b o (Nat.ne_of_lt (Heap.lt_size e)) (Heap.get?_push_of_some _ e)
  refine PySem.W.kla_codeExpr ?_
  refine wpAny_BinOp (wpAny_Constant_int ?_)
  refine wpAny_Call_Name_kw (Calls.Name_function_global hk hs (Calls.loadGlobal_builtin (hg.keeps kp) hm (b1.keeps kp) b2 ?_) (by decide +kernel))
  refine PyProof.Rows.callWith_builtin1 ?_ rfl rfl
  show wpAny _ _ (spliced ((false, eval (.Name x p3) _) :: backTo p4 (starEach [] _))) _ _ _
  refine Calls.spliced_cons (wpAny_Name (wpAny_loadName_local (v := .ref t) hk hx hns (by simp [List.lookup]) ?_) hxd)
  refine Calls.spliced_nil ?_
  obtain ⟨o, h1, h2, n, h3⟩ := ht
  refine sum_rawT (its := its) (ns := ns) (by first | exact hh | simpa using hh) ⟨o, kp _ _ h1, h2, n, h3⟩ hi fun h2 tk2 t' hk2 => ?_
  refine sub_int ⟨_, _, rfl, fun b o e => hk2 b o (kp b o e), ?_⟩
  exact .int _ _
end
/-! ### a lambda made: all that was tracked stays tracked -/
section
variable {X : Cx} {pins : List (Addr × Obj)} {σ : L2.St} {H : Hp} {s : Shared}
theorem lam_makeM {T : List (Addr × Str)} {c P : Addr} {params : Arguments} {body : Expr} {scope : Scope} {pos : Pos} {E : Value → Shared → Prop} {Q : Value → Shared → Prop} (I : Inv X pins σ H s) (TB : TabB X.base X.mg c P) (hcode : X.env.code = .ref c)
    (hm : (P, X.env.qual ++ "<lambda>") ∈ T) (hu : ∀ p ∈ T, p.1 = P → p.2 = X.env.qual ++ "<lambda>") (hT : Tabs T H) (hdef : defaultsOf params X.env = ([], [])) (hfree : ∀ y ∈ scope.names, y.2 ≠ .free)
    (h : ∀ (f c' : Addr) (pm ctv : Value) (H1 : Hp) (s' : Shared), Inv X pins σ H1 s' → Fr T [] H H1 →
      s'.heap.get? f = some (PySem.W.kla_obj "<lambda>" (X.env.qual ++ "<lambda>") params body scope (cloFrom X.env.cells scope.names []) pm c' ctv) → H1 c' = some (CodeO c' (X.env.qual ++ "<lambda>")) → Q (.ref f) s') :
    wpAny (model X.prog X.w) X.A (eval (.Lambda params body scope pos) X.env) Q E s := by
  obtain ⟨ps, hP, ht, ha⟩ := hT _ hm
  refine PySem.W.kla_eval hdef ?_
  have bP : s.heap.BuiltinsAt X.mg P := TB.bm.keeps I.bk
  have hP' : s.heap.get? P = some { cls := .none, data := .fields ps } := I.hok P _ hP
  have hclo := closure_ok (env := X.env) (scope := scope) fun y hy e => absurd e (hfree y hy)
  cases hc : codeAmong pos ps.toList with
  | some cv =>
    obtain ⟨c', rfl, hco⟩ := ha pos cv hc
    refine PySem.W.kla_makeFunctionHit (mg := X.mg) (c := c) (P := P) (ps := ps) hclo I.ok.glob (I.mod.glob.keeps I.bk) hcode (TB.code.keeps I.bk) hP' ht hc bP fun ctv h' tk hx hsz => ?_
    exact h h'.objs.size c' ((X.mg "__name__").getD .none) ctv H _ (I.kept fun b o e => Heap.get?_push_of_some _ (hx b o e)) .refl (Heap.get?_push_size _ rfl) hco
  | none =>
    refine PySem.W.kla_makeFunction (mg := X.mg) (c := c) (P := P) (ps := ps) hclo I.ok.glob (I.mod.glob.keeps I.bk) hcode (TB.code.keeps I.bk) hP' ht hc TB.gP bP fun c' ctv h' tk hx hge hlt hrec htb => ?_
    obtain ⟨c2, oc, vs, t, e2, hoc, hd, hv⟩ := hrec
    cases e2
    have nC : H c' = none := I.hok.fresh hge
    have J := inv_table (q := X.env.qual ++ "<lambda>") (t' := tk) (more := #[rawInt pos.line, rawInt pos.col, .ref c']) (h' := h'.push (PySem.W.kla_obj "<lambda>" (X.env.qual ++ "<lambda>") params body scope (cloFrom X.env.cells scope.names []) ((X.mg "__name__").getD .none) c' ctv)) I hP
      (fun b o hb e => Heap.get?_push_of_some _ (hx b o hb e)) (Heap.get?_push_of_some _ htb) hge ⟨oc, vs, t, Heap.get?_push_of_some _ hoc, hd, hv⟩
    have hE : ExtN H (upd (upd H P (.tbl (ps ++ #[rawInt pos.line, rawInt pos.col, .ref c']))) c' (CodeO c' (X.env.qual ++ "<lambda>"))) := fun b o e n => by
      rw [upd_ne (ne_of_none e nC), upd_ne (fun z => n ps (Option.some.inj (e.symm.trans (by rw [z]; exact hP))))]
      exact e
    refine h h'.objs.size c' ((X.mg "__name__").getD .none) ctv _ _ J ⟨fun b o e _ n => hE b o e n, fun _ p hp => ?_, fun b e => ?_⟩ (Heap.get?_push_size _ rfl) upd_same
    · obtain ⟨ps', a1, a2, a3⟩ := hT p hp
      by_cases hb : p.1 = P
      · have ep : ps' = ps := by
          rw [hb, hP] at a1
          cases a1
          rfl
        subst ep
        have eL : (ps' ++ #[rawInt pos.line, rawInt pos.col, .ref c']).toList = ps'.toList ++ [rawInt pos.line, rawInt pos.col, .ref c'] := by simp
        refine ⟨_, by rw [hb, upd_ne (ne_of_none hP nC), upd_same], by rw [eL]; exact PySem.TriplesOk_snoc _ _ _ _ a2, fun p' cv hcv => ?_⟩
        rw [eL] at hcv
        rcases among_app _ a2 hcv with z | z
        · obtain ⟨c0, e1, e2⟩ := a3 p' cv z
          exact ⟨c0, e1, hE _ _ e2 codeO_ne⟩
        · refine ⟨c', z, ?_⟩
          rw [hu p hp hb]
          exact upd_same
      · refine ⟨ps', by rw [upd_ne (ne_of_none a1 nC), upd_ne hb]; exact a1, a2, fun p' cv hcv => ?_⟩
        obtain ⟨c0, e1, e2⟩ := a3 p' cv hcv
        exact ⟨c0, e1, hE _ _ e2 codeO_ne⟩
    · by_cases h1 : b = c'
      · rw [h1, upd_same]; simp
      · rw [upd_ne h1]
        by_cases h2 : b = P
        · rw [h2, upd_same]; simp
        · rw [upd_ne h2]; exact e
end
/-! ### the rule -/
def negSum (d : List Int) : Int := 0 - d.sum
/-- sorted by 0 - sum -/
def KeySorted (as : List Addr) (ds : List (List Int)) (as' : List Addr) (ds' : List (List Int)) : Prop := as'.length = ds'.length ∧ (as'.zip ds').Perm (as.zip ds) ∧ ds'.Pairwise fun x y => y.sum ≤ x.sum
def tSortK (K : PySem.W.Frag) (T : List (Addr × Str)) (te : TE) : TE := fun σ H Q => te σ H fun x H1 => ∃ (l : Addr) (as : List Addr) (ds : List (List Int)), x = .ref l ∧ SqL K H1 l (as.map V.ref) ∧ Paired (fun a (d : List Int) => SqT K H1 a (d.map V.int)) as ds ∧ Tabs T H1 ∧
  ∀ H2 p as' ds', Fr T [] H1 H2 → H2 p = none → KeySorted as ds as' ds' → Q (.ref p) (upd H2 p (.lst (as'.map V.ref)))
theorem SqT.fr {K : PySem.W.Frag} {T : List (Addr × Str)} {H H' : Hp} {a : Addr} {xs : List V} (h : SqT K H a xs) (e : Fr T [] H H') : SqT K H' a xs := by
  rcases h with (h | ⟨o, h⟩) | h
  · exact .inl (.inl (e.tup0 h))
  · exact .inl (.inr ⟨o, e.ext _ _ h (by simp) fun _ z => by cases z⟩)
  · exact .inr h
theorem SqL.fr {K : PySem.W.Frag} {T : List (Addr × Str)} {H H' : Hp} {a : Addr} {xs : List V} (h : SqL K H a xs) (e : Fr T [] H H') : SqL K H' a xs := by
  rcases h with (h | ⟨o, h⟩) | h
  · exact .inl (.inl (e.lst0 h))
  · exact .inl (.inr ⟨o, e.ext _ _ h (by simp) fun _ z => by cases z⟩)
  · exact .inr h
theorem each_refs {R : Value → Addr × List Int → Prop} (hR : ∀ x : Addr × List Int, R (.ref x.1) x) : ∀ bs : List (Addr × List Int), PySem.W.EachIs R (bs.map fun x => Value.ref x.1) bs
  | [] => .nil
  | x :: bs => .cons (hR x) (each_refs hR bs)
theorem each_back : ∀ {out : List Value} {bs : List (Addr × List Int)}, PySem.W.EachIs (fun v (x : Addr × List Int) => v = Value.ref x.1) out bs → out = bs.map fun x => Value.ref x.1
  | _, _, .nil => rfl
  | _, _, .cons h t => by rw [h, each_back t]; rfl
theorem vals_refs : ∀ as : List Addr, Vals (as.map V.ref) (as.map Value.ref)
  | [] => .nil
  | a :: as => .cons rfl (vals_refs as)
theorem map_zip_fst : ∀ {as : List Addr} {ds : List (List Int)}, as.length = ds.length → (as.zip ds).map (fun x => Value.ref x.1) = as.map Value.ref
  | [], [], _ => rfl
  | a :: as, d :: ds, h => by
    rw [List.zip_cons_cons, List.map_cons, List.map_cons, map_zip_fst (by simpa using h)]
  | [], _ :: _, h => by simp at h
  | _ :: _, [], h => by simp at h
section
variable {X : Cx} {e : Expr} {te : TE} {T : List (Addr × Str)} {c P : Addr} {params : Arguments} {scope : Scope} {x : Str} {j k : Nat} {p1 p2 p3 p4 p5 p6 p7 p8 pos : Pos}
theorem pe_sortK (hg : Gl X "sorted") (hm : X.mg "sorted" = none) (hm2 : X.mg "sum" = none) (he : PE X e te) (TB : TabB X.base X.mg c P) (hcode : X.env.code = .ref c) (hmT : (P, X.env.qual ++ "<lambda>") ∈ T) (hu : ∀ p ∈ T, p.1 = P → p.2 = X.env.qual ++ "<lambda>") (hr : Room k X.A) (hcalm : X.calm = true)
    (hdef : defaultsOf params X.env = ([], [])) (hk : scope.kind = .function) (hco : scope.isCoroutine = false) (hgen : scope.isGenerator = false) (hcell : ∀ y ∈ scope.names, y.2 ≠ .cell) (hfree : ∀ y ∈ scope.names, y.2 ≠ .free) (hx : scope.names.lookup x = some .local) (hs : scope.names.lookup ("sum" : Str) = some .globalImplicit)
    (hxd : (x == ("__debug__" : Str)) = false) (hcl : cloFrom X.env.cells scope.names [] = [])
    (hbind : ∀ (q : Str) (pm cv ctv v : Value), bindArgs (PySem.W.kla_fn "<lambda>" q params (.BinOp (.Constant (.int 0) j p1) .Sub (.Call (.Name "sum" p2) [.Name x p3] [] p4) p5) scope [] pm cv ctv) ⟨[v], []⟩ = pure [(x, v)])
    (hst : backTo pos (starEach [e] X.env) = (false, eval e X.env) :: backTo pos (starEach [] X.env) := by rfl) (hpl : (backTo pos (starEach [e] X.env)).any (·.1) = false := by rfl) :
    PE X (.Call (.Name "sorted" p6) [e] [⟨some "key", .Lambda params (.BinOp (.Constant (.int 0) j p1) .Sub (.Call (.Name "sum" p2) [.Name x p3] [] p4) p5) scope p7, p8⟩] pos) (tSortK X.K T te) := by
  refine ⟨fun pins s σ H Q I h => ?_⟩
  refine wpAny_Call_Name_kw (ld_blt I hg hm (by first | rfl | kernel_rfl | boot_by_name) ?_ (by decide +kernel) (by decide +kernel))
  refine PyProof.Rows.callWith_kw ?_ hst hpl rfl rfl
  rw [hst]
  refine Calls.spliced_cons (thn (he.run pins s σ H _ I h) fun u s1 ⟨xv, H1, I1, r1, l, as, ds, ex, hl, hP, hT, q⟩ => ?_)
  subst ex
  obtain rfl : u = Value.ref l := r1
  show wpAny _ _ (spliced []) _ _ _
  refine Calls.spliced_nil ?_
  show wpAny _ _ (evalAll [do let v ← eval (.Lambda params (.BinOp (.Constant (.int 0) j p1) .Sub (.Call (.Name "sum" p2) [.Name x p3] [] p4) p5) scope p7) X.env; standAt pos; pure v]) _ _ s1
  refine wpAny_evalAll_cons (wpAny_bind (lam_makeM I1 TB hcode hmT hu hT hdef hfree fun f c' pm ctv H2 s2 I2 eN hf hco' => wpAny_bind (wpAny_standAt (wpAny_pure (wpAny_evalAll_nil ?_)))))
  rw [hcl] at hf
  show wpAny _ _ (call (.builtin "sorted") [.ref l] [(Str.ofString "key", .ref f)]) _ _ s2
  have hlen : as.length = ds.length := Paired.length hP
  obtain ⟨its, rv, pl, hz⟩ := I2.list (SqL.fr hl eN)
  have ei := refs_at rv
  subst ei
  rw [List.length_map] at hz
  obtain ⟨⟨oc, vs, t, hoc, hdc, hvc⟩, _, _⟩ := (show ObjOk X.prog X.w H2 s2.heap c' (CodeO c' _) from I2.hok c' _ hco')
  obtain ⟨mb, b1, b2⟩ := I2.mod.blt
  have hmem : ∀ z ∈ as.zip ds, SqT X.K H2 z.1 (z.2.map V.int) := fun z hz => by
    obtain ⟨i, hi⟩ := List.mem_iff_getElem?.mp hz
    rw [List.getElem?_zip_eq_some] at hi
    obtain ⟨y, h1, h2⟩ := Paired.at hP hi.1
    rw [hi.2] at h1
    cases h1
    exact SqT.fr h2 eN
  have bl : (as.zip ds).length = as.length := by rw [List.length_zip, hlen, Nat.min_self]
  obtain ⟨hp2, g2, d2, t2, os2⟩ := s2
  refine PySem.W.sorted_key_data (bs := as.zip ds) (vs := (as.zip ds).map fun z => Value.ref z.1) (R := fun v (z : Addr × List Int) => v = Value.ref z.1) (b := false) (fun z => .int (negSum z.2)) (by
      rw [map_zip_fst hlen]
      exact pl.isList) (each_refs (fun _ => rfl) _) (PySem.W.AllAlike.of fun _ _ => by simp [PySem.W.alike]) (.inr fun d hd => ?_) (by rw [bl]; exact hz) (fun z _ => ?_) (PyProof.Rows.ksk_s1 _ _) (fun _ => PyProof.Rows.ksk_l1 _ _) (fun _ => PyProof.Rows.ksk_t1 _ _) (fun v z hv hzm h3 tk3 k3 => ?_) (fun out cc h3 tk3 k3 hfresh hD hlo hout => ?_)
  · obtain ⟨z, _, rfl⟩ := List.mem_map.mp hd
    exact ⟨by simp, fun _ => by simp⟩
  · have := hr.un
    show X.A.units + 2 + _ < _
    simp only [PyData.depth]
    omega
  · subst hv
    obtain ⟨its, rvt, ⟨o, g1, g3, n, g4⟩, _⟩ := I2.tuple (hmem z hzm)
    refine key_turn (mg := X.mg) (k3 _ _ hf) ⟨c', oc, vs, t, rfl, k3 _ _ hoc, hdc, hvc⟩ ?_ ?_ hk hco hgen hcell hx hs hxd (fun v => hbind _ _ _ _ _) (I2.nolimit.keeps k3) ((I2.mod.glob.keeps I2.bk).keeps k3) hm2 ⟨mb, (b1.keeps I2.bk).keeps k3, (b2 _ (by decide +kernel)).trans (by first | rfl | kernel_rfl | boot_by_name)⟩ ⟨o, k3 _ _ g1, g3, n, g4⟩ rvt.ints
    · exact hr.depth
    · exact hr.hd
  · have hn : H2 (hp2.objs.size + 1) = none := I2.hok.fresh (Nat.le_succ _)
    have eo := each_back hout
    have perm := List.mergeSort_perm (as.zip ds) (PySem.W.dataLe false fun z : Addr × List Int => PyData.int (negSum z.2))
    have le_eq : PySem.W.dataLe false (fun z : Addr × List Int => PyData.int (negSum z.2)) = fun a b => decide (negSum a.2 ≤ negSum b.2) := PySem.W.dataLe_int fun z : Addr × List Int => negSum z.2
    have srt := List.pairwise_mergeSort (le := fun a b : Addr × List Int => decide (negSum a.2 ≤ negSum b.2)) (fun a b c h1 h2 => by simp at h1 h2 ⊢; omega) (fun a b => by simp; omega) (as.zip ds)
    rw [← le_eq] at srt
    generalize (as.zip ds).mergeSort (PySem.W.dataLe false fun z : Addr × List Int => PyData.int (negSum z.2)) = ms at eo perm srt
    subst eo
    have el : (ms.map (·.1)).map V.ref = ms.map fun z => V.ref z.1 := by rw [List.map_map]; rfl
    have ev : (ms.map (·.1)).map Value.ref = ms.map fun z => Value.ref z.1 := by rw [List.map_map]; rfl
    refine ⟨.ref (hp2.objs.size + 1), upd H2 (hp2.objs.size + 1) (.lst ((ms.map (·.1)).map V.ref)), Inv.laidN I2 k3 hfresh hn ?_, rfl, q H2 _ (ms.map (·.1)) (ms.map (·.2)) eN hn ⟨by simp, ?_, ?_⟩⟩
    · refine ⟨?_, (ms.map (·.1)).map Value.ref, cc, vals_refs _, ?_⟩
      · rw [List.length_map, List.length_map, perm.length_eq, bl]
        exact hz
      · rw [ev]
        exact hD
    · have z : ∀ l : List (Addr × List Int), (l.map (·.1)).zip (l.map (·.2)) = l := fun l => by
        induction l with
        | nil => rfl
        | cons y l ih => rw [List.map_cons, List.map_cons, List.zip_cons_cons, ih]
      rw [z]
      exact perm
    · rw [List.pairwise_map]
      refine srt.imp fun {a b} hab => ?_
      have hab' : negSum a.2 ≤ negSum b.2 := of_decide_eq_true hab
      unfold negSum at hab'
      omega
end
end K81
set_option maxHeartbeats 2000000
namespace K81
open PySem PySem.Spec PyProof.Rows L2 LamX K81M StX RZ
/-- a def whose code object is at c -/
structure FunC (K : PySem.W.Frag) (x qual : Str) (st : Stmt) (f c : Addr) (fd : FuncData) : Prop where
  ex : ∃ (oc : Value) (od : Option Addr) (kV doc pm : Value) (an : Option Addr) (ct : Value) (osl : Array (Option Value)),
    fd = PySem.W.fnOf x qual (defArgs st) (defBody st) (defScope st) .none kV doc pm an (.ref c) ct ∧ K.lookup f = some ⟨oc, od, .func fd, osl⟩ ∧ PySem.W.codeIn K (.ref c) qual = true
section
variable {P : Program} {w : World} {K : PySem.W.Frag} {mg : Str → Option Value} {base : Heap} {Tb : List (Addr × Str)} {f c Pt : Addr} {fd : FuncData}
theorem FunC.ok {x qual : Str} {st : Stmt} {N ps : List Str} {k : Nat} {sp : Sp} (F : FunC K x qual st f c fd) (S : FnScope N ps (defScope st)) (len : ∀ vs H Q E, sp vs H Q E → vs.length = ps.length)
    (hbody : ∀ (A : Around) (outer : List Env) (s : Shared) (H : Hp) (vs : List V) (Q : VK) (E : XK), Room k (A.deeper (envOfC qual (defScope st) s.heap.objs.size f (.ref c))) → sp vs H Q E →
      ∃ t, PSs (cxOf CX0 P w K mg base N qual (defScope st) f (.ref c) A outer s H E).nox (defBody st) t ∧ t { nx := fun _ H' => Q .non H', rt := Q } (L2.start N vs) H) : FnOk P w K mg base CX0 (k + 1) f fd ps sp := by
  obtain ⟨oc, od, kV, doc, pm, an, ct, osl, rfl, lk, hcd⟩ := F.ex
  refine fn_of lk hcd S len fun A outer s H vs Q E hr hsp => ?_
  obtain ⟨t, h, q⟩ := hbody A outer s H vs Q E hr hsp
  exact ⟨t, h.nox, q⟩
/-! ### stands_of -/
def wide (l : List (List Nat)) (n : Nat) : List (List Nat) := l.flatMap fun s => (List.range (n + 1)).map fun k => s ++ [k]
def sts (cs : List Nat) : List (List Nat) := cs.foldl wide [[]]
theorem wide_length (l : List (List Nat)) (n : Nat) : (wide l n).length = l.length * (n + 1) := by
  unfold wide
  induction l with
  | nil => simp
  | cons s l ih => rw [List.flatMap_cons, List.length_append, ih, List.length_map, List.length_range, List.length_cons, Nat.succ_mul, Nat.add_comm]
theorem foldl_wide : ∀ (cs : List Nat) (l : List (List Nat)), l.length ≤ (cs.foldl wide l).length ∧ (cs.foldl wide l).length = l.length * (cs.map (· + 1)).prod
  | [], l => by simp
  | n :: cs, l => by
    obtain ⟨h1, h2⟩ := foldl_wide cs (wide l n)
    rw [List.foldl_cons, List.map_cons, List.prod_cons]
    rw [wide_length] at h1 h2
    refine ⟨Nat.le_trans (Nat.le_mul_of_pos_right _ (Nat.succ_pos n)) h1, by rw [h2, Nat.mul_assoc]⟩
theorem sts_length (cs : List Nat) : (sts cs).length = (cs.map (· + 1)).prod := by
  have h := (foldl_wide cs [[]]).2
  unfold sts
  rw [h]
  simp
theorem sts_take_le (cs : List Nat) (i : Nat) : (sts (cs.take i)).length ≤ (sts cs).length := by
  have h := (foldl_wide (cs.drop i) (sts (cs.take i))).1
  unfold sts at h ⊢
  rw [← List.foldl_append, List.take_append_drop] at h
  exact h
theorem sts_snoc {cs : List Nat} {i n : Nat} (h : cs[i]? = some n) : sts (cs.take (i + 1)) = wide (sts (cs.take i)) n := by
  unfold sts
  rw [take_snoc h, List.foldl_append]
  rfl
theorem mem_wide {l : List (List Nat)} {n : Nat} {d : List Nat} : d ∈ wide l n ↔ ∃ s ∈ l, ∃ k, k ≤ n ∧ d = s ++ [k] := by
  unfold wide
  simp only [List.mem_flatMap, List.mem_map, List.mem_range]
  constructor
  · rintro ⟨s, hs, k, hk, rfl⟩
    exact ⟨s, hs, k, by omega, rfl⟩
  · rintro ⟨s, hs, k, hk, rfl⟩
    exact ⟨s, hs, k, by omega, rfl⟩
theorem mem_sts {cs d : List Nat} (h4 : cs.length = 4) : d ∈ sts cs ↔ Le d cs := by
  obtain ⟨a, b, e, f, rfl⟩ := len4 h4
  show d ∈ wide (wide (wide (wide [[]] a) b) e) f ↔ _
  constructor
  · intro h
    obtain ⟨s3, h3, k3, l3, rfl⟩ := mem_wide.mp h
    obtain ⟨s2, h2, k2, l2, rfl⟩ := mem_wide.mp h3
    obtain ⟨s1, h1, k1, l1, rfl⟩ := mem_wide.mp h2
    obtain ⟨s0, h0, k0, l0, rfl⟩ := mem_wide.mp h1
    have : s0 = [] := by simpa using h0
    subst this
    refine ⟨rfl, rfl, fun t ht => ?_⟩
    rcases lt4 ht with rfl | rfl | rfl | rfl <;> simp [at0] <;> assumption
  · rintro ⟨hd, _, hl⟩
    obtain ⟨x, y, z, w, rfl⟩ := len4 hd
    have q0 := hl 0 (by omega); have q1 := hl 1 (by omega); have q2 := hl 2 (by omega); have q3 := hl 3 (by omega)
    simp [at0] at q0 q1 q2 q3
    exact mem_wide.mpr ⟨[x, y, z], mem_wide.mpr ⟨[x, y], mem_wide.mpr ⟨[x], mem_wide.mpr ⟨[], by simp, x, q0, rfl⟩, y, q1, rfl⟩, z, q2, rfl⟩, w, q3, rfl⟩
theorem sts_len4 : ∀ (cs : List Nat) (l : List (List Nat)) (m : Nat), (∀ d ∈ l, d.length = m) → ∀ d ∈ cs.foldl wide l, d.length = m + cs.length
  | [], l, m, h, d, hd => h d hd
  | n :: cs, l, m, h, d, hd => by
    rw [List.foldl_cons] at hd
    have z := sts_len4 cs (wide l n) (m + 1) (fun d hd => by
      obtain ⟨s, hs, k, _, rfl⟩ := mem_wide.mp hd
      rw [List.length_append, h s hs]
      rfl) d hd
    rw [z, List.length_cons]
    omega
theorem refs_split {P : Hp → Addr → List Nat → Prop} {H : Hp} : ∀ {vs : List V} {xs : List (List Nat)}, Refs P H vs xs → ∃ as : List Addr, vs = as.map V.ref ∧ Paired (P H) as xs
  | _, _, .nil => ⟨[], rfl, .nil⟩
  | _, _, .cons ⟨a, e, p⟩ t => by
    obtain ⟨as, e2, q⟩ := refs_split t
    exact ⟨a :: as, by rw [e, e2]; rfl, .cons p q⟩
theorem paired_zip {α β : Type} {F : α → β → Prop} : ∀ {as : List α} {ds : List β}, as.length = ds.length → (∀ p ∈ as.zip ds, F p.1 p.2) → Paired F as ds
  | [], [], _, _ => .nil
  | a :: as, d :: ds, h, q => .cons (q (a, d) (by simp)) (paired_zip (by simpa using h) fun p hp => q p (by rw [List.zip_cons_cons]; exact List.mem_cons_of_mem _ hp))
  | [], _ :: _, h, _ => by simp at h
  | _ :: _, [], h, _ => by simp at h
theorem zip_paired {α β : Type} {F : α → β → Prop} {as : List α} {ds : List β} (h : Paired F as ds) : ∀ p ∈ as.zip ds, F p.1 p.2 := fun p hp => by
  obtain ⟨i, hi⟩ := List.mem_iff_getElem?.mp hp
  rw [List.getElem?_zip_eq_some] at hi
  obtain ⟨y, h1, h2⟩ := Paired.at h hi.1
  rw [hi.2] at h1
  cases h1
  exact h2
theorem zip_snd {α β : Type} : ∀ {as : List α} {ds : List β}, as.length = ds.length → (as.zip ds).map Prod.snd = ds
  | [], [], _ => rfl
  | a :: as, d :: ds, h => by rw [List.zip_cons_cons, List.map_cons, zip_snd (by simpa using h)]
  | [], _ :: _, h => by simp at h
  | _ :: _, [], h => by simp at h
def castL (d : List Nat) : List Int := d.map fun n : Nat => (n : Int)
def natL (d : List Int) : List Nat := d.map Int.toNat
theorem natL_cast (d : List Nat) : natL (castL d) = d := by
  unfold natL castL
  rw [List.map_map]
  induction d with
  | nil => rfl
  | cons n d ih => rw [List.map_cons, ih]; simp
theorem natL_castL (l : List (List Nat)) : (l.map castL).map natL = l := by
  rw [List.map_map]
  induction l with
  | nil => rfl
  | cons d l ih => rw [List.map_cons, ih]; simp [natL_cast]
/-- a nested walk over a range -/
theorem in_range {lo : Int} {n : Nat} {g : TG} {tt : TT} {te : TE} {vs : List Nat} {σ : L2.St} {H1 : Hp} {D : Addr} {Qd : Hp → Prop} (Pv : Nat → Hp → Prop) (h0 : Pv 0 H1)
    (hs : ∀ i H, i < n → Pv i H → g (.int (lo + i)) (wipe σ vs) H fun σ2 H2 => wipe σ2 vs = wipe σ vs ∧ tt σ2 H2 fun b H3 =>
      if b = true then te σ2 H3 fun y H4 => ∃ acc, H4 D = some (.lst acc) ∧ acc.length < sizeLine ∧ Pv (i + 1) (upd H4 D (.lst (acc ++ [y]))) else Pv (i + 1) H3) (hd : ∀ H, Pv n H → Qd H) :
    ∃ W : Nat → Nat → Hp → Prop, (∃ m, W 0 m H1) ∧ ∀ i m H, W i m H →
      ((Itr lo n).stop i H ∧ Qd H) ∨ ((Itr lo n).go i H ∧ ∃ Nx : Hp → Prop, (∀ H', Nx H' → ∃ m', m' < m ∧ W (i + 1) m' H') ∧ ∀ x H', (Itr lo n).yld i H x H' → g x (wipe σ vs) H' fun σ2 H2 => wipe σ2 vs = wipe σ vs ∧ tt σ2 H2 fun b H3 =>
        if b = true then te σ2 H3 fun y H4 => ∃ acc, H4 D = some (.lst acc) ∧ acc.length < sizeLine ∧ Nx (upd H4 D (.lst (acc ++ [y]))) else Nx H3) := by
  refine ⟨fun i m H => m = n - i ∧ i ≤ n ∧ Pv i H, ⟨n, by simp, Nat.zero_le _, h0⟩, ?_⟩
  rintro i m H ⟨rfl, hi, p⟩
  by_cases hlt : i < n
  · refine .inr ⟨hlt, Pv (i + 1), fun H' p' => ⟨n - (i + 1), by omega, rfl, hlt, p'⟩, fun x H' y => ?_⟩
    obtain ⟨rfl, rfl⟩ := y
    exact hs i _ hlt p
  · have e : i = n := by omega
    subst e
    exact .inl ⟨Nat.le_refl _, hd H p⟩
/-- two walks, the outer one over a list -/
theorem lc2_list {K : PySem.W.Frag} {a : Addr} {xs : List V} {g g1 : TG} {tt tt1 : TT} {wi1 : TI} {te : TE} {vs vs1 : List Nat} {σ : L2.St} {H1 : Hp} {D : Addr} {Qd : Hp → Prop} (Pv : Nat → Hp → Prop) (h0 : Pv 0 (upd H1 D (.lst []))) (hl : ∀ i H, i ≤ xs.length → Pv i H → SqL K H a xs)
    (hs : ∀ i x H, xs[i]? = some x → Pv i H → g x (wipe σ vs) H fun σ2 H2 => wipe σ2 vs = wipe σ vs ∧ tt σ2 H2 fun b H3 =>
      if b = true then wi1 σ2 H3 fun J1 H4 => ∃ W1 : Nat → Nat → Hp → Prop, (∃ m, W1 0 m H4) ∧ ∀ j k H, W1 j k H →
        (J1.stop j H ∧ Pv (i + 1) H) ∨ (J1.go j H ∧ ∃ Nx1 : Hp → Prop, (∀ H', Nx1 H' → ∃ k', k' < k ∧ W1 (j + 1) k' H') ∧ ∀ x H', J1.yld j H x H' → g1 x (wipe σ2 vs1) H' fun σ3 H5 => wipe σ3 vs1 = wipe σ2 vs1 ∧ tt1 σ3 H5 fun b H6 =>
          if b = true then te σ3 H6 fun y H7 => ∃ acc, H7 D = some (.lst acc) ∧ acc.length < sizeLine ∧ Nx1 (upd H7 D (.lst (acc ++ [y]))) else Nx1 H6)
      else Pv (i + 1) H3) (hd : ∀ H, Pv xs.length H → Qd H) :
    ∃ W : Nat → Nat → Hp → Prop, (∃ m, W 0 m (upd H1 D (.lst []))) ∧ ∀ i m H, W i m H →
      ((Itl K a).stop i H ∧ Qd H) ∨ ((Itl K a).go i H ∧ ∃ Nx : Hp → Prop, (∀ H', Nx H' → ∃ m', m' < m ∧ W (i + 1) m' H') ∧ ∀ x H', (Itl K a).yld i H x H' → g x (wipe σ vs) H' fun σ2 H2 => wipe σ2 vs = wipe σ vs ∧ tt σ2 H2 fun b H3 =>
        if b = true then wi1 σ2 H3 fun J1 H4 => ∃ W1 : Nat → Nat → Hp → Prop, (∃ m, W1 0 m H4) ∧ ∀ j k H, W1 j k H →
          (J1.stop j H ∧ Nx H) ∨ (J1.go j H ∧ ∃ Nx1 : Hp → Prop, (∀ H', Nx1 H' → ∃ k', k' < k ∧ W1 (j + 1) k' H') ∧ ∀ x H', J1.yld j H x H' → g1 x (wipe σ2 vs1) H' fun σ3 H5 => wipe σ3 vs1 = wipe σ2 vs1 ∧ tt1 σ3 H5 fun b H6 =>
            if b = true then te σ3 H6 fun y H7 => ∃ acc, H7 D = some (.lst acc) ∧ acc.length < sizeLine ∧ Nx1 (upd H7 D (.lst (acc ++ [y]))) else Nx1 H6)
        else Nx H3) := by
  refine ⟨fun i m H => m = xs.length - i ∧ i ≤ xs.length ∧ Pv i H, ⟨xs.length, by simp, Nat.zero_le _, h0⟩, ?_⟩
  rintro i m H ⟨rfl, hi, p⟩
  have q := hl i H hi p
  by_cases hlt : i < xs.length
  · refine .inr ⟨⟨xs, xs[i], q, by simp [hlt]⟩, Pv (i + 1), fun H' p' => ⟨xs.length - (i + 1), by omega, rfl, hlt, p'⟩, fun x H' y => ?_⟩
    obtain ⟨rfl, y⟩ := y
    exact hs i x _ (y xs q) p
  · have e : i = xs.length := by omega
    subst e
    exact .inl ⟨⟨xs, q, Nat.le_refl _⟩, hd H p⟩
def TupAt (H : Hp) (a : Addr) (d : List Nat) : Prop := H a = some (.tup (nIs d))
def spStands (Tb : List (Addr × Str)) : Sp := fun vs H Q _ => ∃ a cs, vs = [.ref a] ∧ H a = some (.tup (nIs cs)) ∧ cs.length = 4 ∧ (cs.map (· + 1)).prod ≤ 20000 ∧ Tabs Tb H ∧
  ∀ H' p vs ds, Fr Tb [] H H' → H p = none → H' p = some (.lst vs) → Refs TupAt H' vs ds → (∀ d, d ∈ ds ↔ Le d cs) → ds.Pairwise (fun x y => y.sum ≤ x.sum) → ds.length ≤ 20000 → Q (.ref p) H'
theorem sc_stands_of : FnScope ["counts", "found", "count", "stand", "done"] ["counts"] (defScope (top 31)) := ⟨rfl, rfl, rfl, by decide +kernel, rfl, by decide +kernel, by decide +kernel⟩
theorem ok_stands_of (F : FunC K "stands_of" "stands_of" (top 31) f c fd) (T : Txt mg) (TB : TabB base mg c Pt) (hmT : (Pt, (Str.ofString "stands_of.<locals>.<lambda>")) ∈ Tb) (hu : ∀ p ∈ Tb, p.1 = Pt → p.2 = (Str.ofString "stands_of.<locals>.<lambda>")) : FnOk P w K mg base CX0 2 f fd ["counts"] (spStands Tb) := by
  refine F.ok sc_stands_of (fun vs H Q E h => ?_) (fun A outer s H vs Q E hr h => ?_)
  · obtain ⟨a, cs, rfl, _⟩ := h
    rfl
  · obtain ⟨a, cs, rfl, ha, h4, hp, hT, k⟩ := h
    refine ⟨_, 
      (pss_cons (ps_set (i := 1) sc_stands_of.nd rfl (by first | exact Or.inl rfl | exact Or.inr rfl) (pe_lst (pa_cons (pe_tup pa_nil) pa_nil)))
      (pss_cons (ps_for PassesOwn.never rfl (piT K (pv 0)) (pg_name (i := 2) sc_stands_of.nd rfl (by first | exact Or.inl rfl | exact Or.inr rfl))
      (pss_one (ps_setLc2 (i := 1) (own := [("stand", 3), ("done", 4)]) (vs1 := [4]) (by rfl) sc_stands_of.nd rfl rfl (sw_true rfl rfl rfl (by decide +kernel)) (piL K (pv 1)) (blkOk_by (by kernel_rfl)) (by decide) (fun _ _ _ _ _ => (pg_name (i := 3) sc_stands_of.nd rfl (by first | exact Or.inl rfl | exact Or.inr rfl))) (fun _ _ _ _ _ => pts_nil) (fun _ _ _ _ _ => (pi_range1 (by rfl) T.f_range (pa_cons (pe_op op_add (pv 2) pe_int) pa_nil))) (fun _ _ _ _ _ => (pg_name (i := 4) sc_stands_of.nd rfl (by first | exact Or.inl rfl | exact Or.inr rfl))) (fun _ _ _ _ _ => pts_nil) (fun _ _ _ _ _ => (pe_tup (paS K (pv 3) (pa_cons (pv 4) pa_nil)))))))
      (pss_one (ps_ret (pe_sortK (by rfl) T.f_sorted T.f_sum (pv 1) TB rfl hmT hu hr rfl rfl rfl rfl rfl (by decide +kernel) (by decide +kernel) rfl rfl rfl rfl (fun _ _ _ _ _ => rfl))))))
      , ?_⟩
    refine ⟨Nat.zero_le _, fun t0 ht0 => ⟨by show 1 ≤ sizeLine; decide, fun fp hfp => ⟨_, rfl, ?_⟩⟩⟩
    have f0 : Fr Tb [] H (upd (upd H t0 (.tup [])) fp (.lst [.ref t0])) := (Fr.new ht0).upd_new hfp
    have ntf : t0 ≠ fp := fun z => by rw [← z, upd_same] at hfp; cases hfp
    have ht1 : upd (upd H t0 (.tup [])) fp (.lst [.ref t0]) t0 = some (.tup []) := by rw [upd_ne ntf, upd_same]
    have hf1 : upd (upd H t0 (.tup [])) fp (.lst [.ref t0]) fp = some (.lst [.ref t0]) := upd_same
    generalize upd (upd H t0 (.tup [])) fp (.lst [.ref t0]) = H1 at f0 ht1 hf1
    have hall : ∀ i, (sts (cs.take i)).length ≤ 20000 := fun i => Nat.le_trans (sts_take_le cs i) (by rw [sts_length]; exact hp)
    refine ⟨a, rfl, ⟨_, SqT.of (f0.tup0 ha)⟩, for_tup (K := K) (a := a) (xs := nIs cs) (fun i σ H' => ∃ fp x vs, σ = [some (.ref a), some (.ref fp), x, none, none] ∧ Fr Tb [] H H' ∧ H' fp = some (.lst vs) ∧ Refs TupAt H' vs (sts (cs.take i))) ⟨fp, none, _, rfl, f0, hf1, .cons ⟨t0, rfl, ht1⟩ .nil⟩ (fun i σ H' _ ⟨_, _, _, _, f, _⟩ => SqT.of (f.tup0 ha)) ?_ ?_⟩
    · rintro i x σ H' hx ⟨fp, x0, vs, rfl, f1, hf, hR⟩
      obtain ⟨n, hn, rfl⟩ := nIs_at hx
      have hl1 := hall (i + 1)
      rw [sts_snoc hn, wide_length] at hl1
      refine ⟨_, rfl, fp, rfl, ⟨_, SqL.of hf⟩, fun D hD => ?_⟩
      refine lc2_list (K := K) (a := fp) (xs := vs) (fun i' H2 => Fr Tb [] H' H2 ∧ ∃ us, H2 D = some (.lst us) ∧ Refs TupAt H2 us (wide ((sts (cs.take i)).take i') n)) ⟨Fr.new hD, [], upd_same, .nil⟩ (fun i' H2 _ q => SqL.of (q.1.lst0 hf)) ?_ ?_
      · rintro i' x' H2 hx' ⟨f2, us, hD2, hR2⟩
        obtain ⟨d, hd, da, rfl, hda⟩ := Paired.at hR hx'
        have hi' := (List.getElem?_eq_some_iff.mp hd).1
        refine ⟨rfl, yes_lc ⟨_, rfl, _, _, rfl, rfl, (n : Int) + 1, rfl, by omega, ?_, ?_⟩⟩
        · have h1 : n + 1 ≤ (sts (cs.take i)).length * (n + 1) := Nat.le_mul_of_pos_left _ (by omega)
          have := sizeLine_eq
          omega
        have en : ((n : Int) + 1).toNat = n + 1 := by omega
        rw [en]
        refine in_range (lo := 0) (n := n + 1) (fun j H3 => Fr Tb [] H' H3 ∧ ∃ us, H3 D = some (.lst us) ∧ Refs TupAt H3 us (wide ((sts (cs.take i)).take i') n ++ (List.range j).map fun k => d ++ [k])) ⟨f2, us, hD2, by rw [List.range_zero, List.map_nil, List.append_nil]; exact hR2⟩ ?_ ?_
        · rintro j H3 hj ⟨f3, us3, hD3, hR3⟩
          have ev : V.int (0 + (j : Int)) = nI j := by rw [Int.zero_add]
          rw [ev]
          have hda3 : TupAt H3 da d := f3.tup0 hda
          refine ⟨rfl, yes_lc ⟨_, rfl, da, _, rfl, .inl (SqT.of hda3), _, rfl, ?_⟩⟩
          have e0 : nIs d ++ [nI j] = nIs (d ++ [j]) := by simp [nIs]
          have dlen : d.length = 0 + (cs.take i).length := sts_len4 (cs.take i) [[]] 0 (by simp) d (List.mem_of_getElem? hd)
          delta tNil
          dsimp only
          rw [e0]
          refine ⟨?_, fun tp htp => ?_⟩
          · rw [List.length_map, List.length_append, dlen, List.length_take]
            show _ ≤ sizeLine
            rw [sizeLine_eq]
            simp only [List.length_singleton]
            omega
          have f4 : Fr Tb [] H' (upd H3 tp (.tup (nIs (d ++ [j])))) := f3.upd_new htp
          have hD4 : upd H3 tp (.tup (nIs (d ++ [j]))) D = some (.lst us3) := by rw [upd_ne (ne_of_none hD3 htp)]; exact hD3
          have ht4 : TupAt (upd H3 tp (.tup (nIs (d ++ [j])))) tp (d ++ [j]) := upd_same
          have hR4 : Refs TupAt (upd H3 tp (.tup (nIs (d ++ [j])))) us3 (wide ((sts (cs.take i)).take i') n ++ (List.range j).map fun k => d ++ [k]) := hR3.fr fun b x z => (Fr.new (T := Tb) htp).tup0 z
          generalize upd H3 tp (.tup (nIs (d ++ [j]))) = H4 at f4 hD4 ht4 hR4
          have keepT : ∀ b (x : List Nat), TupAt H4 b x → TupAt (upd H4 D (.lst (us3 ++ [.ref tp]))) b x := fun b x z => by
            unfold TupAt at z ⊢
            rw [upd_ne (ne_of z hD4 (by intro y; cases y))]
            exact z
          refine ⟨us3, hD4, ?_, f4.lstw (.inl hD) hD4, us3 ++ [.ref tp], upd_same, ?_⟩
          · rw [Paired.length hR3, List.length_append, wide_length, List.length_map, List.length_range, List.length_take, Nat.min_eq_left (by omega)]
            have h1 : (i' + 1) * (n + 1) ≤ (sts (cs.take i)).length * (n + 1) := Nat.mul_le_mul_right _ (by omega)
            rw [Nat.succ_mul] at h1
            have := sizeLine_eq
            omega
          · rw [List.range_succ, List.map_append, ← List.append_assoc]
            exact Paired.snoc ⟨tp, rfl, keepT _ _ ht4⟩ (hR4.fr keepT)
        · rintro H3 ⟨f3, us3, hD3, hR3⟩
          refine ⟨f3, us3, hD3, ?_⟩
          have e : wide ((sts (cs.take i)).take (i' + 1)) n = wide ((sts (cs.take i)).take i') n ++ (List.range (n + 1)).map fun k => d ++ [k] := by
            rw [take_snoc hd]
            unfold wide
            rw [List.flatMap_append]
            simp
          rw [e]
          exact hR3
      · rintro H2 ⟨f2, us, hD2, hR2⟩
        refine ⟨D, some (nI n), us, rfl, f1.trans f2, hD2, ?_⟩
        rw [show vs.length = (sts (cs.take i)).length from Paired.length hR, List.take_length, ← sts_snoc hn] at hR2
        exact hR2
    · rintro σ H' ⟨fp, x, vs, rfl, f1, hf, hR⟩
      rw [show (nIs cs).length = cs.length from List.length_map _, List.take_length] at hR
      obtain ⟨as, rfl, hPs⟩ := refs_split hR
      have hlen : as.length = (sts cs).length := Paired.length hPs
      refine ⟨_, rfl, fp, as, (sts cs).map castL, rfl, SqL.of hf, ?_, f1.tabs hT, fun H2 p as' ds' f2 hp2 ⟨l1, perm, srt⟩ => ?_⟩
      · refine paired_zip (by rw [List.length_map]; exact hlen) fun q hq => ?_
        rw [List.zip_map_right] at hq
        obtain ⟨q0, hq0, rfl⟩ := List.mem_map.mp hq
        have z := zip_paired hPs q0 hq0
        show SqT K H' q0.1 ((castL q0.2).map V.int)
        unfold castL
        rw [← nIs_int]
        exact SqT.of z
      · have permS : (ds'.map natL).Perm (sts cs) := by
          have z := (perm.map Prod.snd).map natL
          rw [zip_snd l1, zip_snd (by rw [List.length_map]; exact hlen), natL_castL] at z
          exact z
        have mem' : ∀ q ∈ as'.zip ds', ∃ d, q.2 = castL d ∧ TupAt H' q.1 d := fun q hq => by
          have hq := perm.mem_iff.mp hq
          rw [List.zip_map_right] at hq
          obtain ⟨q0, hq0, rfl⟩ := List.mem_map.mp hq
          exact ⟨q0.2, rfl, zip_paired hPs q0 hq0⟩
        have cst : ∀ d' ∈ ds', ∃ d, d' = castL d := fun d' hd' => by
          obtain ⟨i, hi⟩ := List.mem_iff_getElem?.mp hd'
          have hi2 := (List.getElem?_eq_some_iff.mp hi).1
          have : (as'[i]'(by omega), d') ∈ as'.zip ds' := List.mem_of_getElem? (i := i) (by rw [List.getElem?_zip_eq_some]; exact ⟨List.getElem?_eq_getElem (by omega), hi⟩)
          obtain ⟨d, e, _⟩ := mem' _ this
          exact ⟨d, e⟩
        have f3 := (f1.trans f2).upd_new (o := .lst (as'.map V.ref)) hp2
        refine k _ p (as'.map V.ref) (ds'.map natL) f3 ((f1.trans f2).free hp2) upd_same ?_ (fun d => (permS.mem_iff).trans (mem_sts h4)) ?_ ?_
        · have z : Paired (TupAt (upd H2 p (.lst (as'.map V.ref)))) as' (ds'.map natL) := by
            refine paired_zip (by rw [List.length_map]; exact l1) fun q hq => ?_
            rw [List.zip_map_right] at hq
            obtain ⟨q0, hq0, rfl⟩ := List.mem_map.mp hq
            obtain ⟨d, e, hd⟩ := mem' _ hq0
            show TupAt _ q0.1 (natL q0.2)
            rw [e, natL_cast]
            exact (f2.upd_new (o := .lst (as'.map V.ref)) hp2).tup0 hd
          have zz : ∀ {l : List Addr} {m : List (List Nat)}, Paired (TupAt (upd H2 p (.lst (as'.map V.ref)))) l m → Refs TupAt (upd H2 p (.lst (as'.map V.ref))) (l.map V.ref) m := fun {l m} z => by
            induction z with
            | nil => exact .nil
            | cons r t ih => exact .cons ⟨_, rfl, r⟩ ih
          exact zz z
        · rw [List.pairwise_map]
          refine List.Pairwise.imp_of_mem (fun {x y} hx hy hxy => ?_) srt
          obtain ⟨dx, rfl⟩ := cst x hx
          obtain ⟨dy, rfl⟩ := cst y hy
          rw [natL_cast, natL_cast]
          unfold castL at hxy
          rw [castSum, castSum] at hxy
          omega
        · rw [permS.length_eq, sts_length]
          exact hp
end
end K81
set_option maxHeartbeats 2000000
namespace K81
open PySem PySem.Spec PyProof.Rows L2 LamX K81M StX RZ
section
variable {P : Program} {w : World} {K : PySem.W.Frag} {mg : Str → Option Value} {base : Heap} {Tb : List (Addr × Str)} {f c Pt C fN : Addr} {fd : FuncData}
def dk (d : List Nat) : List Key := d.map fun n : Nat => .inl (n : Int)
theorem dk_kV (d : List Nat) : (dk d).map kV = nIs d := by
  unfold dk
  rw [List.map_map]
  rfl
theorem dk_inj {d e : List Nat} (h : dk d = dk e) : d = e := by
  unfold dk at h
  have key : ∀ a b : List Nat, (a.map fun n : Nat => (Sum.inl (n : Int) : Key)) = (b.map fun n : Nat => (Sum.inl (n : Int) : Key)) → a = b := by
    intro a
    induction a with
    | nil => intro b h; cases b with
      | nil => rfl
      | cons y b => cases h
    | cons x a ih => intro b h; cases b with
      | nil => cases h
      | cons y b =>
        rw [List.map_cons, List.map_cons] at h
        injection h with h1 h2
        injection h1 with h1
        rw [ih b h2, show x = y by omega]
  exact key d e h
/-! ### frames, one object apart -/
section
variable {T : List (Addr × Str)} {S : List Addr} {H H1 H' : Hp} {y b : Addr} {o : HO}
theorem Fr.trans2 (f : Fr T S H H1) (g : Fr T [y] H1 H') (hy : H y = none) : Fr T S H H' where
  ext := fun b o e n1 n2 => g.ext b o (f.ext b o e n1 n2) (by
    intro z
    have : b = y := by simpa using z
    rw [this, hy] at e
    cases e) n2
  tabs := fun t => g.tabs (f.tabs t)
  old := fun b e => g.old b (f.old b e)
theorem Fr.at1 (f : Fr T [y] H H') (h : H b = some o) (n : H y ≠ some o) (nt : ∀ ps, o ≠ .tbl ps) : H' b = some o := f.ext b o h (by
  intro z
  have : b = y := by simpa using z
  rw [this] at h
  exact n h) nt
theorem Fr.tup1 {xs : List V} (f : Fr T [y] H H') (h : H b = some (.tup xs)) (n : ∀ xs, H y ≠ some (.tup xs)) : H' b = some (.tup xs) := f.at1 h (n xs) fun _ z => by cases z
theorem Fr.lst1 {xs : List V} (f : Fr T [y] H H') (h : H b = some (.lst xs)) (n : ∀ xs, H y ≠ some (.lst xs)) : H' b = some (.lst xs) := f.at1 h (n xs) fun _ z => by cases z
theorem Fr.ins1 {C dx : Addr} {fs : List (Str × V)} (f : Fr T [y] H H') (h : H b = some (.ins C dx fs)) (n : ∀ C dx fs, H y ≠ some (.ins C dx fs)) : H' b = some (.ins C dx fs) := f.at1 h (n _ _ _) fun _ z => by cases z
theorem WaitsAt.fr1 {w : Addr} {E : List En} (h : WaitsAt H w E) (f : Fr T [y] H H') (hw : w ≠ y) (n1 : ∀ xs, H y ≠ some (.lst xs)) (n2 : ∀ xs, H y ≠ some (.tup xs)) : WaitsAt H' w E := by
  obtain ⟨kvs, h1, h2⟩ := h
  refine ⟨kvs, f.ext w _ h1 (by simpa using hw) fun _ z => (by cases z), fun n => ?_⟩
  have q := h2 n
  cases e : valV kvs (nk n) with
  | none => rw [e] at q; exact q
  | some v =>
    rw [e] at q
    obtain ⟨l, vs, e1, e2, e3⟩ := q
    exact ⟨l, vs, e1, f.lst1 e2 n1, e3.fr fun a x z => f.tup1 z n2⟩
theorem LedAt.fr1 {a : Addr} {c : List Nat} {E : List En} (h : LedAt H a c E) (f : Fr T [y] H H') (n2 : ∀ xs, H y ≠ some (.tup xs)) : LedAt H' a c E := by
  obtain ⟨ca, ea, vs, h1, h2, h3, h4⟩ := h
  exact ⟨ca, ea, vs, f.tup1 h1 n2, f.tup1 h2 n2, f.tup1 h3 n2, h4.fr fun a x ⟨p, q, g1, g2, g3⟩ => ⟨p, q, f.tup1 g1 n2, f.tup1 g2 n2, f.tup1 g3 n2⟩⟩
theorem Fr.insw {C dx : Addr} {fs : List (Str × V)} (f : Fr T S H H') (hn : H b = none ∨ b ∈ S) (he : H' b = some (.ins C dx fs)) : Fr T S H (upd H' b o) :=
  f.write hn (by rw [he]; simp) (fun _ z => by rw [he] at z; cases z) (fun _ z => by rw [he] at z; cases z) (fun _ z => by rw [he] at z; cases z)
end
def Fl (fs : List (Str × V)) (x : Str) (v : V) : Prop := fs.lookup x = some v
/-- the class -/
structure WCls (K : PySem.W.Frag) (C : Addr) : Prop where
  cls : Cls K C
  n1 : NoAttr K C "counts"
  n2 : NoAttr K C "waits"
  n3 : NoAttr K C "ways"
/-! ### nexts -/
def spNexts (Tb : List (Addr × Str)) (C : Addr) : Sp := fun vs H Q _ => ∃ a sa dx fs ca wa c d E, vs = [.ref a, .ref sa] ∧ H a = some (.ins C dx fs) ∧ Fl fs "counts" (.ref ca) ∧ Fl fs "waits" (.ref wa) ∧ TupAt H ca c ∧ c.length = 4 ∧ WaitsAt H wa E ∧ TupAt H sa d ∧ d.length = 4 ∧ EIn E ∧ E.length ≤ 1000 ∧
  ∀ H' p vs, Fr Tb [] H H' → H p = none → H' p = some (.lst vs) → Refs TupAt H' vs ((lets c E d).map (K81M.bump d)) → Q (.ref p) H'
def nextsSt : Stmt := match top 33 with
  | .ClassDef (body := b) .. => b.getD 1 (.Pass ⟨0, 0, 0, 0⟩)
  | s => s
def initSt : Stmt := match top 33 with
  | .ClassDef (body := b) .. => b.getD 0 (.Pass ⟨0, 0, 0, 0⟩)
  | s => s
theorem sc_nexts : FnScope ["self", "stand", "thread"] ["self", "stand"] (defScope nextsSt) := ⟨rfl, rfl, rfl, by decide +kernel, rfl, by decide +kernel, by decide +kernel⟩
theorem ok_nexts (F : Fun K "nexts" "Ways.nexts" nextsSt f fd) (T : Txt mg) (hC : WCls K C) (C_let_threads : Cl P w K mg base CX0 2 "let_threads" (spLets Tb)) (C_stepped_stand : Cl P w K mg base CX0 1 "stepped_stand" (spStepped Tb)) : FnOk P w K mg base CX0 3 f fd ["self", "stand"] (spNexts Tb C) := by
  refine F.ok sc_nexts (fun vs H Q E h => ?_) (fun cdv A outer s H vs Q E hr h => ?_)
  · obtain ⟨a, sa, dx, fs, ca, wa, c, d, En, rfl, _⟩ := h
    rfl
  · obtain ⟨a, sa, dx, fs, ca, wa, c, d, En, rfl, h⟩ := h
    refine ⟨_, 
      (pss_one (ps_ret (pe_lc (own := [("thread", 2)]) (by rfl) sc_nexts.nd (piL K (cl0 C_let_threads hr (by decide) (by rfl) (pa_cons (peF K (pv 0)) (pa_cons (peF K (pv 0)) (pa_cons (pv 1) pa_nil))))) (blkOk_by (by kernel_rfl)) (fun _ _ _ _ _ => (pg_name (i := 2) sc_nexts.nd rfl (by first | exact Or.inl rfl | exact Or.inr rfl))) (fun _ _ _ _ _ => pts_nil) (fun _ _ _ _ _ => (cl0 C_stepped_stand hr (by decide) (by rfl) (pa_cons (pv 1) (pa_cons (pv 2) pa_nil)))))))
      , ?_⟩
    obtain ⟨hI, hf1, hf2, hca, h4, hwa, hsa, hd4, hE, hlen, k⟩ := h
    refine ⟨_, rfl, a, C, dx, fs, _, rfl, hI, hC.cls, hC.n1, hf1, _, rfl, a, C, dx, fs, _, rfl, hI, hC.cls, hC.n2, hf2, _, rfl, ca, wa, sa, c, d, En, rfl, hca, h4, hwa, .inr hsa, hd4, hE, hlen, fun H1 l f1 l0 hl => ?_⟩
    refine ⟨l, rfl, ⟨_, SqL.of hl⟩, fun D hD => lc_list (K := K) (a := l) (xs := nIs (lets c En d)) (fun i H' => Fr Tb [] H1 H' ∧ ∃ us, H' D = some (.lst us) ∧ Refs TupAt H' us (((lets c En d).take i).map (K81M.bump d))) ⟨Fr.new hD, [], upd_same, .nil⟩ (fun i H' _ q => SqL.of (q.1.lst0 hl)) ?_ ?_⟩
    · rintro i x H' hx ⟨f2, us, hD2, hR⟩
      obtain ⟨t, ht, rfl⟩ := nIs_at hx
      have t4 := (mem_lets.mp (List.mem_of_getElem? ht)).1
      have hi := (List.getElem?_eq_some_iff.mp ht).1
      have hle := lets_le c En d
      refine ⟨rfl, yes_lc ⟨_, rfl, _, rfl, sa, d, t, rfl, (f1.trans f2).tup0 hsa, hd4, t4, fun H2 p f3 p0 hp => ?_⟩⟩
      have hD3 := f3.lst0 hD2
      have keepT : ∀ b (x : List Nat), TupAt H2 b x → TupAt (upd H2 D (.lst (us ++ [.ref p]))) b x := fun b x z => by
        unfold TupAt at z ⊢
        rw [upd_ne (ne_of z hD3 (by intro y; cases y))]
        exact z
      refine ⟨us, hD3, ?_, (f2.trans f3).lstw (.inl hD) hD3, us ++ [.ref p], upd_same, ?_⟩
      · rw [Paired.length hR, List.length_map, List.length_take]
        exact Nat.lt_of_le_of_lt (by omega : min i (lets c En d).length ≤ 4) (by decide)
      · rw [take_snoc ht, List.map_append]
        exact Paired.snoc ⟨p, rfl, keepT _ _ hp⟩ (Refs.fr (hR.fr fun b x z => f3.tup0 z) keepT)
    · rintro H' ⟨f2, us, hD2, hR⟩
      rw [show (nIs (lets c En d)).length = (lets c En d).length from List.length_map _, List.take_length] at hR
      exact k H' D us (f1.trans f2) (f1.free hD) hD2 hR
/-! ### __init__ -/
def WaysAt (C : Addr) (H : Hp) (a : Addr) (c : List Nat) (E : List En) : Prop := ∃ dx fs ca wa ya kvs, H a = some (.ins C dx fs) ∧ Fl fs "counts" (.ref ca) ∧ TupAt H ca c ∧ Fl fs "waits" (.ref wa) ∧ WaitsAt H wa E ∧ Fl fs "ways" (.ref ya) ∧ H ya = some (.dT kvs) ∧
  ∀ d, Le d c → valV kvs (dk d) = some (nI (W c E d))
def spInit (Tb : List (Addr × Str)) (C : Addr) : Sp := fun vs H Q _ => ∃ a la dx c E, vs = [.ref a, .ref la] ∧ H a = some (.ins C dx []) ∧ LedAt H la c E ∧ LedOk c E ∧ (c.map (· + 1)).prod ≤ 20000 ∧ Tabs Tb H ∧ ∀ H', Fr Tb [a] H H' → WaysAt C H' a c E → Q .non H'
theorem sc_init : FnScope ["self", "ledger", "stand", "item"] ["self", "ledger"] (defScope initSt) := ⟨rfl, rfl, rfl, by decide +kernel, rfl, by decide +kernel, by decide +kernel⟩
theorem ok_init (F : Fun K "__init__" "Ways.__init__" initSt f fd) (T : Txt mg) (hC : WCls K C) (MN : Meth K C "nexts" fN) (ON : ∃ fdN, FnOk P w K mg base CX0 3 fN fdN ["self", "stand"] (spNexts Tb C) ∧ Binds K fdN ["self", "stand"] []) (C_waits_of : Cl P w K mg base CX0 1 "waits_of" (spWaits Tb)) (C_stands_of : Cl P w K mg base CX0 2 "stands_of" (spStands Tb)) : FnOk P w K mg base CX0 4 f fd ["self", "ledger"] (spInit Tb C) := by
  obtain ⟨fdN, ON, BN⟩ := ON
  refine F.ok sc_init (fun vs H Q E h => ?_) (fun cdv A outer s H vs Q E hr h => ?_)
  · obtain ⟨a, la, dx, c, En, rfl, _⟩ := h
    rfl
  · obtain ⟨a, la, dx, c, En, rfl, h⟩ := h
    refine ⟨_, 
      (pss_cons (ps_fld (pv 0) (pe_ix (ixT K) (pv 1) pe_int (fun _ _ => rfl)) rfl)
      (pss_cons (ps_fld (pv 0) (cl0 C_waits_of hr (by decide) (by rfl) (pa_cons (pe_ix (ixT K) (pv 1) pe_int (fun _ _ => rfl)) pa_nil)) rfl)
      (pss_cons (ps_fld (pv 0) pe_dnewT rfl)
      (pss_one (ps_for PassesOwn.never rfl (piL K (cl0 C_stands_of hr (by decide) (by rfl) (pa_cons (pe_ix (ixT K) (pv 1) pe_int (fun _ _ => rfl)) pa_nil))) (pg_name (i := 2) sc_init.nd rfl (by first | exact Or.inl rfl | exact Or.inr rfl))
      (pss_one (ps_dput (hu_of hr) (peF K (pv 0)) (pv 2) (pe_ifExp (pt_cmpR (opNe K hr.units) (pv 2) (peF K (pv 0)) (nomark _)) (pe_callB (crSum K rfl) (by rfl) T.f_sum (by decide +kernel) (pa_cons (pe_lc (own := [("item", 3)]) (by rfl) sc_init.nd (piL K (pe_meth (pv 0) hC.cls MN ON hr BN .nil pass0 (pa_cons (pv 2) pa_nil))) (blkOk_by (by kernel_rfl)) (fun _ _ _ _ _ => (pg_name (i := 3) sc_init.nd rfl (by first | exact Or.inl rfl | exact Or.inr rfl))) (fun _ _ _ _ _ => pts_nil) (fun _ _ _ _ _ => (pe_dget (hu_of hr) (peF K (pv 0)) (pv 3) (fun _ _ => rfl)))) pa_nil)) pe_int) rfl)))))))
      , ?_⟩
    obtain ⟨hI, ⟨ca, ea, vs, hL1, hL2, hL3, hL4⟩, ok, hprod, hT, k⟩ := h
    have hled : LedAt H la c En := ⟨ca, ea, vs, hL1, hL2, hL3, hL4⟩
    have nT : ∀ xs, H a ≠ some (.tup xs) := fun xs z => by rw [hI] at z; cases z
    -- self.counts
    refine ⟨_, rfl, la, _, 0, _, rfl, rfl, SqT.of hL1, rfl, _, rfl, a, C, dx, [], rfl, hI, hC.cls, hC.n1, by show 0 < 1000; decide, ?_⟩
    have f1 : Fr Tb [a] H (upd H a (.ins C dx (putF "counts" (.ref ca) []))) := (Fr.refl (T := Tb) (S := [a])).insw (.inr (by simp)) hI
    have hI1 : upd H a (.ins C dx (putF "counts" (.ref ca) [])) a = some (.ins C dx (putF "counts" (.ref ca) [])) := upd_same
    generalize upd H a (.ins C dx (putF "counts" (.ref ca) [])) = H1 at f1 hI1
    -- self.waits
    refine ⟨_, rfl, la, _, 1, _, rfl, rfl, SqT.of (f1.tup1 hL1 nT), rfl, ea, vs, En, rfl, f1.tup1 hL3 nT, (hL4.fr fun a x ⟨p, q, g1, g2, g3⟩ => ⟨p, q, f1.tup1 g1 nT, f1.tup1 g2 nT, f1.tup1 g3 nT⟩), ok.few, fun H2 wa g2 wa0 hw2 => ?_⟩
    have hI2 : H2 a = some (.ins C dx (putF "counts" (.ref ca) [])) := g2.ext _ _ hI1 (by simp) fun _ z => by cases z
    refine ⟨_, rfl, a, C, dx, _, rfl, hI2, hC.cls, hC.n2, by show 1 < 1000; decide, ?_⟩
    have f2 : Fr Tb [a] H H2 := f1.trans g2.mono
    have hw0 : H wa = none := f1.free wa0
    have nI2t : ∀ xs, H2 a ≠ some (.tup xs) := fun xs z => by rw [hI2] at z; cases z
    have nI2l : ∀ xs, H2 a ≠ some (.lst xs) := fun xs z => by rw [hI2] at z; cases z
    have nwa : wa ≠ a := fun z => by rw [z, hI1] at wa0; cases wa0
    have e3 : Fr Tb [a] H2 (upd H2 a (.ins C dx (putF "waits" (.ref wa) (putF "counts" (.ref ca) [])))) := (Fr.refl (T := Tb) (S := [a])).insw (.inr (by simp)) hI2
    have f3 : Fr Tb [a] H (upd H2 a (.ins C dx (putF "waits" (.ref wa) (putF "counts" (.ref ca) [])))) := f2.trans e3
    have hw3 := hw2.fr1 e3 nwa nI2l nI2t
    have hI3 : upd H2 a (.ins C dx (putF "waits" (.ref wa) (putF "counts" (.ref ca) []))) a = some (.ins C dx (putF "waits" (.ref wa) (putF "counts" (.ref ca) []))) := upd_same
    generalize upd H2 a (.ins C dx (putF "waits" (.ref wa) (putF "counts" (.ref ca) []))) = H3 at f3 hw3 hI3
    -- self.ways
    intro ya hya
    have nyw : wa ≠ ya := by
      obtain ⟨kvs, z, _⟩ := hw3
      exact ne_of_none z hya
    have nya : a ≠ ya := ne_of_none hI3 hya
    have f4 : Fr Tb [a] H (upd H3 ya (.dT [])) := f3.upd_new hya
    have hya0 : H ya = none := f3.free hya
    have hw4 : WaitsAt (upd H3 ya (.dT [])) wa En := hw3.fr (Fr.new (T := Tb) hya)
    have hI4 : upd H3 ya (.dT []) a = some (.ins C dx (putF "waits" (.ref wa) (putF "counts" (.ref ca) []))) := by rw [upd_ne nya]; exact hI3
    have hy4 : upd H3 ya (.dT []) ya = some (.dT []) := upd_same
    generalize upd H3 ya (.dT []) = H4 at f4 hw4 hI4 hy4
    refine ⟨_, rfl, a, C, dx, _, rfl, hI4, hC.cls, hC.n3, by show 2 < 1000; decide, ?_⟩
    have nI4t : ∀ xs, H4 a ≠ some (.tup xs) := fun xs z => by rw [hI4] at z; cases z
    have nI4l : ∀ xs, H4 a ≠ some (.lst xs) := fun xs z => by rw [hI4] at z; cases z
    have e5 : Fr Tb [a] H4 (upd H4 a (.ins C dx (putF "ways" (.ref ya) (putF "waits" (.ref wa) (putF "counts" (.ref ca) []))))) := (Fr.refl (T := Tb) (S := [a])).insw (.inr (by simp)) hI4
    have f5 := f4.trans e5
    have hw5 := hw4.fr1 e5 nwa nI4l nI4t
    have hy5 : upd H4 a (.ins C dx (putF "ways" (.ref ya) (putF "waits" (.ref wa) (putF "counts" (.ref ca) [])))) ya = some (.dT []) := by rw [upd_ne nya.symm]; exact hy4
    have hI5 : upd H4 a (.ins C dx (putF "ways" (.ref ya) (putF "waits" (.ref wa) (putF "counts" (.ref ca) [])))) a = some (.ins C dx (putF "ways" (.ref ya) (putF "waits" (.ref wa) (putF "counts" (.ref ca) [])))) := upd_same
    generalize upd H4 a (.ins C dx (putF "ways" (.ref ya) (putF "waits" (.ref wa) (putF "counts" (.ref ca) [])))) = H5 at f5 hw5 hy5 hI5
    have l1 : Fl (putF "ways" (.ref ya) (putF "waits" (.ref wa) (putF "counts" (.ref ca) []))) "counts" (.ref ca) := rfl
    have l2 : Fl (putF "ways" (.ref ya) (putF "waits" (.ref wa) (putF "counts" (.ref ca) []))) "waits" (.ref wa) := rfl
    have l3 : Fl (putF "ways" (.ref ya) (putF "waits" (.ref wa) (putF "counts" (.ref ca) []))) "ways" (.ref ya) := rfl
    have l4 : (putF "ways" (.ref ya) (putF "waits" (.ref wa) (putF "counts" (.ref ca) []))).lookup ("nexts" : Str) = none := rfl
    generalize putF "ways" (.ref ya) (putF "waits" (.ref wa) (putF "counts" (.ref ca) [])) = fs at hI5 l1 l2 l3 l4
    have hL15 := f5.tup1 hL1 nT
    have hca5 : TupAt H5 ca c := f5.tup1 hL2 nT
    -- the stands
    refine ⟨_, rfl, la, _, 0, _, rfl, rfl, SqT.of hL15, rfl, ca, c, rfl, hca5, ok.len, hprod, f5.tabs hT, fun H6 sp ss ds g6 sp0 hsp hR hmem hsrt hdl => ?_⟩
    have hI6 := g6.ext _ _ hI5 (by simp) fun _ z => by cases z
    have hy6 := g6.ext _ _ hy5 (by simp) fun _ z => by cases z
    have hw6 := hw5.fr g6
    have hca6 : TupAt H6 ca c := g6.tup0 hca5
    have f6 : Fr Tb [a] H H6 := f5.trans g6.mono
    have ny6t : ∀ xs, H6 ya ≠ some (.tup xs) := fun xs z => by rw [hy6] at z; cases z
    have ny6l : ∀ xs, H6 ya ≠ some (.lst xs) := fun xs z => by rw [hy6] at z; cases z
    have ny6i : ∀ C dx fs, H6 ya ≠ some (.ins C dx fs) := fun _ _ _ z => by rw [hy6] at z; cases z
    have slen : ss.length = ds.length := Paired.length hR
    refine ⟨sp, rfl, ⟨_, SqL.of hsp⟩, for_list (K := K) (a := sp) (xs := ss) (fun i σ H' => ∃ x kvs, σ = [some (.ref a), some (.ref la), x, none] ∧ Fr Tb [ya] H6 H' ∧ H' ya = some (.dT kvs) ∧ kvs.length ≤ i ∧ ∀ j, j < i → ∀ d, ds[j]? = some d → valV kvs (dk d) = some (nI (W c En d))) ⟨none, [], rfl, .refl, hy6, Nat.le_refl _, fun j hj => absurd hj (Nat.not_lt_zero _)⟩ (fun i σ H' _ ⟨_, _, _, f, _⟩ => SqL.of (f.lst1 hsp ny6l)) ?_ ?_⟩
    · rintro i x σ H' hx ⟨x0, kvs, rfl, f7, hy7, hkl, hval⟩
      obtain ⟨d, hd, sa, rfl, hsa⟩ := Paired.at hR hx
      have hi := (List.getElem?_eq_some_iff.mp hd).1
      have hle := (hmem d).mp (List.mem_of_getElem? hd)
      have hI7 := f7.ins1 hI6 ny6i
      have hsa7 : TupAt H' sa d := f7.tup1 hsa ny6t
      have hca7 : TupAt H' ca c := f7.tup1 hca6 ny6t
      have ksz : kvs.length < sizeLine := Nat.lt_of_le_of_lt (by omega : kvs.length ≤ 20000) (by decide)
      -- what is done once the number is known
      have hkey : ∀ H8, Fr Tb [ya] H6 H8 → H8 sa = some (.tup ((dk d).map kV)) := fun H8 f8 => by rw [dk_kV]; exact f8.tup1 hsa ny6t
      have done : ∀ H8, Fr Tb [ya] H6 H8 → H8 ya = some (.dT kvs) → ∃ x kvs', ([some (V.ref a), some (V.ref la), some (V.ref sa), none] : L2.St) = [some (V.ref a), some (V.ref la), x, none] ∧ Fr Tb [ya] H6 (upd H8 ya (.dT (putK kvs (dk d) (nI (W c En d))))) ∧
          upd H8 ya (.dT (putK kvs (dk d) (nI (W c En d)))) ya = some (.dT kvs') ∧ kvs'.length ≤ i + 1 ∧ ∀ j, j < i + 1 → ∀ d, ds[j]? = some d → valV kvs' (dk d) = some (nI (W c En d)) := fun H8 f8 hy8 => by
        refine ⟨_, putK kvs (dk d) (nI (W c En d)), rfl, f8.dTw (.inr (by simp)) hy8, upd_same, ?_, fun j hj d' hd' => ?_⟩
        · have z := len_put_le kvs (dk d) (nI (W c En d))
          omega
        · rw [valV_put]
          by_cases e : dk d' = dk d
          · rw [if_pos e, dk_inj e]
          · rw [if_neg e]
            have hj' : j < i := by
              rcases Nat.lt_succ_iff_lt_or_eq.mp hj with z | z
              · exact z
              · rw [z, hd] at hd'
                cases hd'
                exact absurd rfl e
            exact hval j hj' d' hd'
      refine ⟨_, rfl, _, rfl, a, C, dx, fs, _, rfl, hI7, hC.cls, hC.n1, l1, .tuple (nD d), .tuple (nD c), .tup (SqT.of hsa7) (dpN _), .tup (SqT.of hca7) (dpN _), shapedT _, shapedT _, ?_⟩
      rw [eqvT]
      by_cases hdc : d = c
      · rw [decide_eq_true hdc]
        refine ⟨_, rfl, iteF ?_⟩
        have e1 : V.int 1 = nI (W c En d) := by rw [hdc, W_self]; rfl
        have z := done H' f7 hy7
        rw [← e1] at z
        exact ⟨_, rfl, a, C, dx, fs, _, rfl, hI7, hC.cls, hC.n3, l3, _, rfl, ya, _, rfl, DPut.t hy7 (hkey H' f7) ksz, z⟩
      · rw [decide_eq_false hdc]
        refine ⟨_, rfl, iteT ?_⟩
        refine ⟨_, rfl, a, dx, fs, rfl, hI7, l4, _, rfl, a, sa, dx, fs, ca, wa, c, d, En, rfl, hI7, l1, l2, hca7, ok.len, hw6.fr1 f7 nyw ny6l ny6t, hsa7, hle.1, ok.ein, ok.few, fun H8 np us g8 np0 hnp hRn => ?_⟩
        have f8 : Fr Tb [ya] H6 H8 := f7.trans g8.mono
        have hy8 : H8 ya = some (.dT kvs) := g8.ext _ _ hy7 (by simp) fun _ z => by cases z
        have ulen : us.length = (lets c En d).length := by rw [Paired.length hRn, List.length_map]
        have hle4 := lets_le c En d
        refine ⟨np, rfl, ⟨_, SqL.of hnp⟩, fun D hD => lc_list (K := K) (a := np) (xs := us) (fun i H' => H' = upd H8 D (.lst (nIs (((lets c En d).take i).map fun t => W c En (K81M.bump d t))))) rfl (fun i H' _ e => by
          rw [e]
          exact SqL.of (by rw [upd_ne (ne_of_none hnp hD)]; exact hnp)) ?_ ?_⟩
        · rintro i' x' H9 hx' rfl
          obtain ⟨e, he, ia, rfl, hia⟩ := Paired.at hRn hx'
          obtain ⟨t, ht, rfl⟩ : ∃ t, (lets c En d)[i']? = some t ∧ K81M.bump d t = e := by
            rw [List.getElem?_map] at he
            cases q : (lets c En d)[i']? with
            | none => rw [q] at he; cases he
            | some t => rw [q] at he; exact ⟨t, rfl, Option.some.inj he⟩
          have htm := List.mem_of_getElem? ht
          have hi' := (List.getElem?_eq_some_iff.mp ht).1
          have fD := Fr.new (T := Tb) (S := []) (o := .lst (nIs (((lets c En d).take i').map fun t => W c En (K81M.bump d t)))) hD
          have hv : valV kvs (dk (K81M.bump d t)) = some (nI (W c En (K81M.bump d t))) := by
            have hb := hle.lets htm
            obtain ⟨j, hj⟩ := List.mem_iff_getElem?.mp ((hmem _).mpr hb)
            have hs := bump_sum (t := t) hle.1 (mem_lets.mp htm).1
            refine hval j ?_ _ hj
            rcases Nat.lt_trichotomy j i with z | z | z
            · exact z
            · rw [z, hd] at hj
              have e := Option.some.inj hj
              rw [← e] at hs
              omega
            · have hjl := (List.getElem?_eq_some_iff.mp hj).1
              have q := List.pairwise_iff_getElem.mp hsrt i j hi hjl z
              rw [List.getElem?_eq_getElem hi] at hd
              rw [List.getElem?_eq_getElem hjl] at hj
              rw [Option.some.inj hd, Option.some.inj hj] at q
              omega
          have hia9 : upd H8 D (.lst (nIs (((lets c En d).take i').map fun t => W c En (K81M.bump d t)))) ia = some (.tup ((dk (K81M.bump d t)).map kV)) := by rw [dk_kV]; exact fD.tup0 hia
          refine ⟨rfl, yes_lc ⟨_, rfl, a, C, dx, fs, _, rfl, fD.ext _ _ (f8.ins1 hI6 ny6i) (by simp) (fun _ z => by cases z), hC.cls, hC.n3, l3, _, rfl, ya, nI (W c En (K81M.bump d t)), rfl, ?_, _, upd_same, ?_, ?_⟩⟩
          · rw [← hv]
            exact DGet.t (fD.ext _ _ hy8 (by simp) fun _ z => by cases z) hia9
          · rw [List.length_map, List.length_map, List.length_take]
            exact Nat.lt_of_le_of_lt (by omega : min i' (lets c En d).length ≤ 4) (by decide)
          · rw [upd_upd, take_snoc ht]
            simp [nIs]
        · rintro H9 rfl
          rw [ulen, List.take_length]
          have f9 : Fr Tb [ya] H6 (upd H8 D (.lst (nIs ((lets c En d).map fun t => W c En (K81M.bump d t))))) := f8.upd_new hD
          have hy9 : upd H8 D (.lst (nIs ((lets c En d).map fun t => W c En (K81M.bump d t)))) ya = some (.dT kvs) := by rw [upd_ne (ne_of_none hy8 hD)]; exact hy8
          refine ⟨D, castL ((lets c En d).map fun t => W c En (K81M.bump d t)), rfl, SqL.of (by rw [upd_same, nIs_int]; rfl), ?_⟩
          have es : (castL ((lets c En d).map fun t => W c En (K81M.bump d t))).sum = ((W c En d : Nat) : Int) := by
            unfold castL
            rw [castSum, ← W_step hle hdc]
          rw [es]
          exact ⟨_, rfl, a, C, dx, fs, _, rfl, f9.ins1 hI6 ny6i, hC.cls, hC.n3, l3, _, rfl, ya, _, rfl, DPut.t hy9 (hkey _ f9) ksz, done _ f9 hy9⟩
    · rintro σ H' ⟨x0, kvs, rfl, f7, hy7, hkl, hval⟩
      refine k H' (f6.trans2 f7 hya0) ⟨dx, fs, ca, wa, ya, kvs, f7.ins1 hI6 ny6i, l1, f7.tup1 hca6 ny6t, l2, hw6.fr1 f7 nyw ny6l ny6t, l3, hy7, fun d hd => ?_⟩
      obtain ⟨j, hj⟩ := List.mem_iff_getElem?.mp ((hmem d).mpr hd)
      exact hval j (by rw [slen]; exact (List.getElem?_eq_some_iff.mp hj).1) d hj
end
end K81
set_option maxHeartbeats 2000000
namespace K81
open PySem PySem.Spec PyProof.Rows L2 LamX K81M StX RZ
/-- the class Ways, made -/
structure WaysC (P : Program) (w : World) (K : PySem.W.Frag) (mg : Str → Option Value) (base : Heap) (Tb : List (Addr × Str)) (C : Addr) : Prop where
  g : mg "Ways" = some (.ref C)
  wc : WCls K C
  ini : ∃ (fI : Addr) (fd : FuncData), Mk K C fI ∧ FnOk P w K mg base CX0 4 fI fd ["self", "ledger"] (spInit Tb C) ∧ Binds K fd ["self", "ledger"] []
def tMkW (Tb : List (Addr × Str)) (C : Addr) (te : TE) : TE := fun σ H Q => te σ H fun x H1 => ∃ la c E, x = .ref la ∧ LedAt H1 la c E ∧ LedOk c E ∧ (c.map (· + 1)).prod ≤ 20000 ∧ Tabs Tb H1 ∧ ∀ H' a, Fr Tb [] H1 H' → H1 a = none → WaysAt C H' a c E → Q (.ref a) H'
theorem Fr.make {T : List (Addr × Str)} {H H' : Hp} {x dx : Addr} {o1 o2 : HO} (f : Fr T [x] (upd (upd H dx o1) x o2) H') (hx : H x = none) (hd : H dx = none) (hne : dx ≠ x) : Fr T [] H H' where
  ext := fun b o e _ n => f.ext b o (by rw [upd_ne (ne_of_none e hx), upd_ne (ne_of_none e hd)]; exact e) (by simpa using ne_of_none e hx) n
  tabs := fun t => by
    have t1 : Tabs T (upd H dx o1) := t.ext fun b u e => by rw [upd_ne (ne_of_none e hd)]; exact e
    have hx1 : upd H dx o1 x = none := by rw [upd_ne (Ne.symm hne)]; exact hx
    exact f.tabs (t1.ext fun b u e => by rw [upd_ne (ne_of_none e hx1)]; exact e)
  old := fun b e => f.old b (by
    by_cases z : b = x
    · rw [z, upd_same]; simp
    · rw [upd_ne z]
      by_cases z2 : b = dx
      · rw [z2, upd_same]; simp
      · rw [upd_ne z2]; exact e)
section
variable {X : Cx} {Tb : List (Addr × Str)} {C : Addr} {e : Expr} {te : TE} {p pos : Pos} {j : Nat}
theorem peWays (h : WaysC X.prog X.w X.K X.mg X.base Tb C) (hr : Room j X.A) (hj : 5 ≤ j) (hg : Gl X "Ways") (he : PE X e te)
    (hst : starEach [e] X.env = (false, eval e X.env) :: starEach [] X.env := by rfl) (hpl : (backTo pos (starEach [] X.env)).any (·.1) = false := by rfl) : PE X (.Call (.Name "Ways" p) [e] [] pos) (tMkW Tb C te) := by
  refine ⟨fun pins s σ H Q I hq => ?_⟩
  obtain ⟨fI, fd, hM, hF, hB⟩ := h.ini
  refine wpAny_Call_Name_kw (ld_glob I hg h.g ?_ (by decide))
  have ha : PA X [e] (tCons te tNil) := pa_cons he pa_nil hst
  refine PySem.W.callWith_K (h₀ := X.base) I.ok.mod.kin hM.kp (thn (ha.run pos pins s σ H (fun vs H1 => match vs with
    | [x] => ∃ la c E, x = .ref la ∧ LedAt H1 la c E ∧ LedOk c E ∧ (c.map (· + 1)).prod ≤ 20000 ∧ Tabs Tb H1 ∧ ∀ H' a, Fr Tb [] H1 H' → H1 a = none → WaysAt C H' a c E → Q (.ref a) H'
    | _ => False) I hq) fun us s1 ⟨vs, H1, I1, r, q⟩ => ⟨I1.kIn, ?_⟩) hst hpl
  match vs, q, r with
  | [x], q, r =>
    obtain ⟨la, c, E, rfl, hL, ok, hp, hT, k⟩ := q
    refine run_make hM hF ((hr.mono hj)) hB .nil pass0 I1 r fun x dx hx hdx hne => ?_
    have n1 : Fr Tb [] H1 (upd (upd H1 dx (.own x)) x (.ins C dx [])) := (Fr.new hdx).upd_new (by rw [upd_ne (Ne.symm hne)]; exact hx)
    exact ⟨x, la, dx, c, E, rfl, upd_same, hL.fr n1, ok, hp, n1.tabs hT, fun H' f hw => ⟨rfl, k H' x (f.make hx hdx hne) hx hw⟩⟩
end
section
variable {P : Program} {w : World} {K : PySem.W.Frag} {mg : Str → Option Value} {base : Heap} {Tb : List (Addr × Str)} {f c Pt C fN : Addr} {fd : FuncData} {CS cL cW cN cT : Addr}
/-- an exception with a field, raised -/
def Rz (Tb : List (Addr × Str)) (E : XK) (H : Hp) (cls : Addr) (fld : Str) (v : V) : Prop := ∀ H' d, Fr Tb [] H H' → H' d = some (.xd [(fld, v)]) → E (.ref cls) (some d) H'
theorem Rz.at {E : XK} {H H1 : Hp} {cls : Addr} {fld : Str} {v : V} (h : Rz Tb E H cls fld v) (f1 : Fr Tb [] H H1) : ∀ d, H1 d = none → E (.ref cls) (some d) (upd H1 d (.xd [(fld, v)])) := fun d hd => h _ d (f1.upd_new hd) upd_same
def Few (c : List Nat) : Prop := (c.map (· + 1)).prod ≤ 20000
/-! ### need_countable -/
def spCountable (Tb : List (Addr × Str)) (cL cT : Addr) : Sp := fun vs H Q E => ∃ x, vs = [x] ∧ ((Odd H x ∧ ∀ H', Fr Tb [] H H' → E (.ref cL) none H') ∨ ∃ a c En, x = .ref a ∧ LedAt H a c En ∧ LedOk c En ∧ (Few c → ∀ H', Fr Tb [] H H' → Q .non H') ∧ (¬ Few c → Rz Tb E H cT "most" (.int 20000)))
theorem sc_need_countable : FnScope ["ledger"] ["ledger"] (defScope (top 34)) := ⟨rfl, rfl, rfl, by decide +kernel, rfl, by decide +kernel, by decide +kernel⟩
theorem ok_need_countable (F : Fun K "need_countable" "need_countable" (top 34) f fd) (T : Txt mg) (C_need_ledger : Cl P w K mg base (L2.CX P w) 6 "need_ledger" (spNeedLedger Tb cL)) (C_need_few_stands : Cl P w K mg base (L2.CX P w) 3 "need_few_stands" (spFew cT)) :
    FnOk P w K mg base (L2.CX P w) 7 f fd ["ledger"] (spCountable Tb cL cT) := by
  refine F.okX sc_need_countable (fun vs H Q E h => ?_) (fun cdv A outer s H vs Q E hr h => ?_)
  · obtain ⟨x, rfl, h⟩ := h
    rfl
  · obtain ⟨x, rfl, h⟩ := h
    refine ⟨_, 
      (pss_cons (ps_expr (clX C_need_ledger hr (by decide) (by rfl) (passes_call (takes_of rfl rfl rfl rfl) fun _ _ _ _ h => h) (pa_cons (pv 0) pa_nil)))
      (pss_one (ps_expr (clX C_need_few_stands hr (by decide) (by rfl) (passes_call (takes_of rfl rfl rfl rfl) fun _ _ _ _ h => h) (pa_cons (pe_ix (ixT K) (pv 0) pe_int (fun _ _ => rfl)) pa_nil)))))
      , ?_⟩
    rcases h with ⟨ho, k⟩ | ⟨a, c, En, rfl, hL, ok, k1, k2⟩
    · exact ⟨_, rfl, x, rfl, .inr ⟨ho, k⟩⟩
    · have hL' := hL
      obtain ⟨ca, ea, vs, h1, h2, h3, h4⟩ := hL'
      refine ⟨_, rfl, _, rfl, .inl ⟨a, c, En, rfl, hL, ok, fun H1 f1 => ?_⟩⟩
      refine ⟨_, rfl, a, _, 0, _, rfl, rfl, SqT.of (f1.tup0 h1), rfl, ca, c, rfl, f1.tup0 h2, ok.len, ok.small, fun hf => k1 hf _ f1, fun hf => (k2 (by unfold Few; omega)).at f1⟩
/-! ### need_keeping -/
theorem nIs_ty {H : Hp} (l : List Nat) : ∀ v ∈ nIs l, ∃ t, TyS H v t := fun v hv => by
  obtain ⟨n, _, rfl⟩ := List.mem_map.mp hv
  exact ⟨_, .int _⟩
theorem nIs_th {l : List Nat} (h : ∀ t ∈ l, t < 4) : ((nIs l).all fun v => isTh v 3) = true := by
  rw [List.all_eq_true]
  intro v hv
  obtain ⟨n, hn, rfl⟩ := List.mem_map.mp hv
  have := h n hn
  exact decide_eq_true ⟨by omega, by omega⟩
def BadWv (H : Hp) (c : List Nat) (E : List En) (x : V) : Prop := (∃ t, TyS H x t ∧ (t == "list" || t == "tuple") = false) ∨ (∃ a xs, x = .ref a ∧ SqAt H a xs ∧ xs.length ≤ 100000 ∧ (∀ v ∈ xs, ∃ t, TyS H v t) ∧ (xs.all fun v => isTh v 3) = false) ∨
  ∃ b l, x = .ref b ∧ WvAt H b l ∧ l.length ≤ 100000 ∧ (∀ t ∈ l, t < 4) ∧ KeptB c E l = false
def GoodWv (H : Hp) (c : List Nat) (E : List En) (x : V) (b : Addr) (l : List Nat) : Prop := x = .ref b ∧ WvAt H b l ∧ l.length ≤ 100000 ∧ (∀ t ∈ l, t < 4) ∧ KeptB c E l = true
def spKeeping (Tb : List (Addr × Str)) (cW : Addr) : Sp := fun vs H Q E => ∃ a c En x, vs = [.ref a, x] ∧ LedAt H a c En ∧ LedOk c En ∧ ((BadWv H c En x ∧ ∀ H', Fr Tb [] H H' → E (.ref cW) none H') ∨ ∃ b l, GoodWv H c En x b l ∧ ∀ H', Fr Tb [] H H' → Q .non H')
theorem sc_need_keeping : FnScope ["ledger", "weaving"] ["ledger", "weaving"] (defScope (top 35)) := ⟨rfl, rfl, rfl, by decide +kernel, rfl, by decide +kernel, by decide +kernel⟩
theorem ok_need_keeping (F : Fun K "need_keeping" "need_keeping" (top 35) f fd) (T : Txt mg) (X_BadWeaving : Ex1 K mg CS "BadWeaving" cW) (C_is_weaving : Cl P w K mg base CX0 3 "is_weaving" (spIsWeaving Tb)) (C_is_kept_by : Cl P w K mg base CX0 2 "is_kept_by" (spIsKept Tb)) :
    FnOk P w K mg base (L2.CX P w) 4 f fd ["ledger", "weaving"] (spKeeping Tb cW) := by
  refine F.okX sc_need_keeping (fun vs H Q E h => ?_) (fun cdv A outer s H vs Q E hr h => ?_)
  · obtain ⟨a, c, En, x, rfl, h⟩ := h
    rfl
  · obtain ⟨a, c, En, x, rfl, h⟩ := h
    refine ⟨_, 
      (pss_one (ps_if (PW.pt (pw_or (pt_not (pt_val (cl0 C_is_weaving hr (by decide) (by rfl) (pa_cons (pv 1) pa_nil)))) (pw_or1 (pt_not (pt_val (cl0 C_is_kept_by hr (by decide) (by rfl) (pa_cons (pv 0) (pa_cons (pv 1) pa_nil))))))))
      (pss_one (ps_raise rfl (takes_of rfl rfl rfl rfl) (Ex1.mk' X_BadWeaving (by rfl)))) pss_nil))
      , ?_⟩
    obtain ⟨hL, ok, h⟩ := h
    refine ⟨_, rfl, ?_⟩
    delta tNil
    dsimp only
    rcases h with ⟨hb, k⟩ | ⟨b, l, ⟨rfl, hw, hlen, h4, hk⟩, k⟩
    · rcases hb with ⟨t, ty, ht⟩ | ⟨b, xs, rfl, hs, hlen, hty, hall⟩ | ⟨b, l, rfl, hw, hlen, h4, hk⟩
      · exact ⟨x, rfl, .inl ⟨t, ty, ht, fun H1 f1 => ⟨_, rfl, iteT (iteT (k _ f1))⟩⟩⟩
      · refine ⟨_, rfl, .inr ⟨b, xs, rfl, hs, hlen, hty, fun H1 f1 => ?_⟩⟩
        rw [hall]
        exact ⟨_, rfl, iteT (iteT (k _ f1))⟩
      · refine ⟨_, rfl, .inr ⟨b, nIs l, rfl, hw.sq, by rw [List.length_map]; exact hlen, nIs_ty l, fun H1 f1 => ?_⟩⟩
        rw [nIs_th h4]
        refine ⟨_, rfl, iteF ⟨_, rfl, _, rfl, a, b, c, En, l, rfl, hL.fr f1, ok, hw.fr f1, hlen, h4, fun H2 f2 => ⟨_, rfl, ?_⟩⟩⟩
        rw [hk]
        exact iteT (k _ (f1.trans f2))
    · refine ⟨_, rfl, .inr ⟨b, nIs l, rfl, hw.sq, by rw [List.length_map]; exact hlen, nIs_ty l, fun H1 f1 => ?_⟩⟩
      rw [nIs_th h4]
      refine ⟨_, rfl, iteF ⟨_, rfl, _, rfl, a, b, c, En, l, rfl, hL.fr f1, ok, hw.fr f1, hlen, h4, fun H2 f2 => ⟨_, rfl, ?_⟩⟩⟩
      rw [hk]
      exact iteF (k _ (f1.trans f2))
/-! ### how_many -/
def spHowMany (Tb : List (Addr × Str)) (cL cT : Addr) : Sp := fun vs H Q E => ∃ x, vs = [x] ∧ ((Odd H x ∧ ∀ H', Fr Tb [] H H' → E (.ref cL) none H') ∨ ∃ a c En, x = .ref a ∧ LedAt H a c En ∧ LedOk c En ∧ Tabs Tb H ∧ (Few c → ∀ H', Fr Tb [] H H' → Q (nI (W c En zero4)) H') ∧ (¬ Few c → Rz Tb E H cT "most" (.int 20000)))
theorem sc_how_many : FnScope ["ledger"] ["ledger"] (defScope (top 36)) := ⟨rfl, rfl, rfl, by decide +kernel, rfl, by decide +kernel, by decide +kernel⟩
theorem ok_how_many (F : Fun K "how_many" "how_many" (top 36) f fd) (T : Txt mg) (C_Ways : WaysC P w K mg base Tb C) (C_need_countable : Cl P w K mg base (L2.CX P w) 7 "need_countable" (spCountable Tb cL cT)) :
    FnOk P w K mg base (L2.CX P w) 8 f fd ["ledger"] (spHowMany Tb cL cT) := by
  refine F.okX sc_how_many (fun vs H Q E h => ?_) (fun cdv A outer s H vs Q E hr h => ?_)
  · obtain ⟨x, rfl, h⟩ := h
    rfl
  · obtain ⟨x, rfl, h⟩ := h
    refine ⟨_, 
      (pss_cons (ps_expr (clX C_need_countable hr (by decide) (by rfl) (passes_call (takes_of rfl rfl rfl rfl) fun _ _ _ _ h => h) (pa_cons (pv 0) pa_nil)))
      (pss_one (ps_ret (pe_dget (hu_of hr) (peF K (peWays C_Ways hr (by decide) (by rfl) (pv 0))) (pe_op (opRep K) (pe_tup (pa_cons pe_int pa_nil)) (gI (by rfl) T.c_MOST_THREADS)) (fun _ _ => rfl)))))
      , ?_⟩
    rcases h with ⟨ho, k⟩ | ⟨a, c, En, rfl, hL, ok, hT, k1, k2⟩
    · exact ⟨_, rfl, x, rfl, .inl ⟨ho, k⟩⟩
    · refine ⟨_, rfl, _, rfl, .inr ⟨a, c, En, rfl, hL, ok, fun hf H1 f1 => ?_, k2⟩⟩
      refine ⟨_, rfl, a, c, En, rfl, hL.fr f1, ok, hf, f1.tabs hT, fun H2 wa f2 wa0 hW => ?_⟩
      obtain ⟨dx, fs, ca, wd, ya, kvs, hI, l1, hca, l2, hwd, l3, hy, hval⟩ := hW
      refine ⟨wa, C, dx, fs, _, rfl, hI, C_Ways.wc.cls, C_Ways.wc.n3, l3, ?_⟩
      refine ⟨by show 1 ≤ sizeLine; decide, fun p hp => ?_⟩
      refine ⟨p, 4, _, rfl, rfl, SqT.of upd_same, by simp, by decide, by decide, by decide, fun z hz => ?_⟩
      have g3 : Fr Tb [] H2 (upd H2 p (.tup [nI 0])) := Fr.new hp
      have g4 : Fr Tb [] H2 (upd (upd H2 p (.tup [nI 0])) z (.tup (nIs zero4))) := g3.upd_new hz
      refine ⟨ya, nI (W c En zero4), rfl, ?_, k1 hf _ ((f1.trans f2).trans g4)⟩
      rw [← hval zero4 (Le.zero ok.len)]
      exact DGet.t (g4.ext _ _ hy (by simp) fun _ z => by cases z) (by rw [dk_kV]; exact upd_same)
/-! ### least_weaving -/
def spLeast (Tb : List (Addr × Str)) (cL cT : Addr) : Sp := fun vs H Q E => ∃ x, vs = [x] ∧ ((Odd H x ∧ ∀ H', Fr Tb [] H H' → E (.ref cL) none H') ∨ ∃ a c En, x = .ref a ∧ LedAt H a c En ∧ LedOk c En ∧ (Few c → ∀ H' p, Fr Tb [] H H' → H' p = some (.tup (nIs (wv c En (rem c zero4) zero4))) → Q (.ref p) H') ∧ (¬ Few c → Rz Tb E H cT "most" (.int 20000)))
theorem sc_least_weaving : FnScope ["ledger"] ["ledger"] (defScope (top 37)) := ⟨rfl, rfl, rfl, by decide +kernel, rfl, by decide +kernel, by decide +kernel⟩
theorem ok_least_weaving (F : Fun K "least_weaving" "least_weaving" (top 37) f fd) (T : Txt mg) (C_need_countable : Cl P w K mg base (L2.CX P w) 7 "need_countable" (spCountable Tb cL cT)) (C_woven : Cl P w K mg base CX0 3 "woven" (spWoven Tb)) (C_waits_of : Cl P w K mg base CX0 1 "waits_of" (spWaits Tb)) :
    FnOk P w K mg base (L2.CX P w) 8 f fd ["ledger"] (spLeast Tb cL cT) := by
  refine F.okX sc_least_weaving (fun vs H Q E h => ?_) (fun cdv A outer s H vs Q E hr h => ?_)
  · obtain ⟨x, rfl, h⟩ := h
    rfl
  · obtain ⟨x, rfl, h⟩ := h
    refine ⟨_, 
      (pss_cons (ps_expr (clX C_need_countable hr (by decide) (by rfl) (passes_call (takes_of rfl rfl rfl rfl) fun _ _ _ _ h => h) (pa_cons (pv 0) pa_nil)))
      (pss_one (ps_ret (pe_callTy (crTupOf K) (by rfl) T.f_tuple (by decide +kernel) (pa_cons (cl0 C_woven hr (by decide) (by rfl) (pa_cons (pe_ix (ixT K) (pv 0) pe_int (fun _ _ => rfl)) (pa_cons (cl0 C_waits_of hr (by decide) (by rfl) (pa_cons (pe_ix (ixT K) (pv 0) pe_int (fun _ _ => rfl)) pa_nil)) (pa_cons (pe_op (opRep K) (pe_tup (pa_cons pe_int pa_nil)) (gI (by rfl) T.c_MOST_THREADS)) pa_nil)))) pa_nil)))))
      , ?_⟩
    rcases h with ⟨ho, k⟩ | ⟨a, c, En, rfl, hL, ok, k1, k2⟩
    · exact ⟨_, rfl, x, rfl, .inl ⟨ho, k⟩⟩
    · refine ⟨_, rfl, _, rfl, .inr ⟨a, c, En, rfl, hL, ok, fun hf H1 f1 => ?_, k2⟩⟩
      obtain ⟨ca, ea, vs, h1, h2, h3, h4⟩ := hL
      refine ⟨_, rfl, a, _, 0, _, rfl, rfl, SqT.of (f1.tup0 h1), rfl, ?_⟩
      refine ⟨_, rfl, a, _, 1, _, rfl, rfl, SqT.of (f1.tup0 h1), rfl, ?_⟩
      refine ⟨ea, vs, En, rfl, f1.tup0 h3, h4.fr (fun a x q => q.fr f1), ok.few, fun H2 wa f2 _ hw => ?_⟩
      have f02 := f1.trans f2
      refine ⟨by show 1 ≤ sizeLine; decide, fun p hp => ?_⟩
      refine ⟨p, 4, _, rfl, rfl, SqT.of upd_same, by simp, by decide, by decide, by decide, fun z hz => ?_⟩
      have f3 : Fr Tb [] H (upd H2 p (.tup [nI 0])) := f02.upd_new hp
      have f4 := f3.upd_new (o := .tup (nIs zero4)) hz
      refine ⟨ca, wa, z, c, zero4, En, rfl, f4.tup0 h2, ok.good, ?_, .inr upd_same, Le.zero ok.len, ok.ein, ok.few, ok.sum, fun H5 l f5 _ hl => ?_⟩
      · exact (hw.fr (Fr.new (T := Tb) hp)).fr (Fr.new (T := Tb) hz)
      exact ⟨l, _, rfl, .inl ⟨SqL.of hl, fun q hq => k1 hf _ q ((f4.trans f5).upd_new hq) upd_same⟩⟩
end
end K81
set_option maxHeartbeats 2000000
namespace K81M
/-! ### along a weaving -/
def runD (d l : List Nat) : List Nat := l.foldl bump d
theorem runD_snoc {d l : List Nat} {i t : Nat} (h : l[i]? = some t) : runD d (l.take (i + 1)) = bump (runD d (l.take i)) t := by
  unfold runD
  rw [List.take_add_one, h, List.foldl_append]
  rfl
theorem path_run {c : List Nat} {E : List En} : ∀ {l d : List Nat}, Path c E d l → runD d l = c
  | [], d, h => h
  | t :: l, d, h => path_run (d := bump d t) h.2
theorem path_at {c : List Nat} {E : List En} : ∀ {l d : List Nat} (k : Nat), Le d c → Path c E d l → Le (runD d (l.take k)) c ∧ Path c E (runD d (l.take k)) (l.drop k)
  | l, d, 0, hd, h => by
    rw [List.take_zero, List.drop_zero]
    exact ⟨hd, h⟩
  | [], d, k + 1, hd, h => by
    rw [List.take_nil, List.drop_nil]
    exact ⟨hd, h⟩
  | t :: l, d, k + 1, hd, h => path_at (d := bump d t) k (hd.lets h.1) h.2
theorem nxt_prefix {c : List Nat} {E : List En} : ∀ {l d r : List Nat} (k : Nat), nxt c E (runD d (l.take k)) (l.drop k) = some r → nxt c E d l = some (l.take k ++ r)
  | l, d, r, 0, h => by
    rw [List.take_zero, List.drop_zero] at h
    rw [List.take_zero]
    exact h
  | [], d, r, k + 1, h => by
    rw [List.take_nil, List.drop_nil] at h
    rw [List.take_nil]
    exact h
  | t :: l, d, r, k + 1, h => by
    have z := nxt_prefix (d := bump d t) (l := l) k h
    show (match nxt c E (bump d t) l with
      | some r' => some (t :: r')
      | none => match (lets c E d).filter (fun u => decide (t < u)) with
        | [] => none
        | u :: _ => some (u :: wv c E (rem c (bump d u)) (bump d u))) = _
    rw [z]
    rfl
theorem nxt_here {c : List Nat} {E : List En} {d r : List Nat} {t : Nat} (h : nxt c E (bump d t) r = none) : nxt c E d (t :: r) = match (lets c E d).filter (fun u => decide (t < u)) with
    | [] => none
    | u :: _ => some (u :: wv c E (rem c (bump d u)) (bump d u)) := by
  show (match nxt c E (bump d t) r with
      | some r' => some (t :: r')
      | none => match (lets c E d).filter (fun u => decide (t < u)) with
        | [] => none
        | u :: _ => some (u :: wv c E (rem c (bump d u)) (bump d u))) = _
  rw [h]
theorem drop_cons {l : List Nat} {k t : Nat} (h : l[k]? = some t) : l.drop k = t :: l.drop (k + 1) := by
  obtain ⟨hk, e⟩ := List.getElem?_eq_some_iff.mp h
  rw [List.drop_eq_getElem_cons hk, e]
theorem unbump {d : List Nat} {t : Nat} (ht : t < d.length) : (bump d t).set t (at0 d t) = d := by
  unfold bump
  rw [List.set_set]
  unfold at0
  rw [List.getD_eq_getElem?_getD, List.getElem?_eq_getElem ht]
  exact List.set_getElem_self ht
end K81M
namespace K81
open PySem PySem.Spec PyProof.Rows L2 LamX K81M StX RZ
theorem BadWv.fr {T : List (Addr × Str)} {H H' : Hp} {c : List Nat} {E : List En} {x : V} (h : BadWv H c E x) (f : Fr T [] H H') : BadWv H' c E x := by
  rcases h with ⟨t, ty, ht⟩ | ⟨b, xs, e, hs, hl, hty, ha⟩ | ⟨b, l, e, hw, hl, h4, hk⟩
  · exact .inl ⟨t, ty.fr f, ht⟩
  · exact .inr (.inl ⟨b, xs, e, hs.fr f, hl, fun v hv => (hty v hv).imp fun t ty => ty.fr f, ha⟩)
  · exact .inr (.inr ⟨b, l, e, hw.fr f, hl, h4, hk⟩)
theorem GoodWv.fr {T : List (Addr × Str)} {H H' : Hp} {c : List Nat} {E : List En} {x : V} {b : Addr} {l : List Nat} (h : GoodWv H c E x b l) (f : Fr T [] H H') : GoodWv H' c E x b l := ⟨h.1, h.2.1.fr f, h.2.2⟩
theorem WaysAt.fr {T : List (Addr × Str)} {C a : Addr} {H H' : Hp} {c : List Nat} {E : List En} (h : WaysAt C H a c E) (f : Fr T [] H H') : WaysAt C H' a c E := by
  obtain ⟨dx, fs, ca, wa, ya, kvs, hI, l1, hca, l2, hwa, l3, hy, hv⟩ := h
  exact ⟨dx, fs, ca, wa, ya, kvs, f.ext _ _ hI (by simp) (fun _ z => by cases z), l1, f.tup0 hca, l2, hwa.fr f, l3, f.ext _ _ hy (by simp) (fun _ z => by cases z), hv⟩
end K81
namespace K81
open PySem PySem.Spec PyProof.Rows L2 LamX K81M StX RZ
section
variable {P : Program} {w : World} {K : PySem.W.Frag} {mg : Str → Option Value} {base : Heap} {Tb : List (Addr × Str)} {f c Pt C fN : Addr} {fd : FuncData} {CS cL cW cN cT : Addr}
/-! ### next_weaving -/
theorem ixW {H : Hp} {b : Addr} {l : List Nat} {k t : Nat} {Q : VK} (h : WvAt H b l) (hk : l[k]? = some t) (q : Q (nI t) H) : rIxL K (.ref b) (nI k) H Q ∨ rIxT K (.ref b) (nI k) H Q := by
  have e : atI (nIs l) (k : Int) = some (nI t) := atI_nat (by rw [List.getElem?_map, hk]; rfl)
  rcases h with h | h
  · exact .inl ⟨b, _, _, _, rfl, rfl, SqL.of h, e, q⟩
  · exact .inr ⟨b, _, _, _, rfl, rfl, h.sq, e, q⟩
def spNext (Tb : List (Addr × Str)) (cL cW cT : Addr) : Sp := fun vs H Q E => ∃ x y, vs = [x, y] ∧ ((Odd H x ∧ ∀ H', Fr Tb [] H H' → E (.ref cL) none H') ∨ ∃ a c En, x = .ref a ∧ LedAt H a c En ∧ LedOk c En ∧ ((BadWv H c En y ∧ ∀ H', Fr Tb [] H H' → E (.ref cW) none H') ∨
  ∃ b l, GoodWv H c En y b l ∧ (¬ Few c → Rz Tb E H cT "most" (.int 20000)) ∧ (Few c → (nxt c En zero4 l = none → ∀ H', Fr Tb [] H H' → Q .non H') ∧ ∀ l', nxt c En zero4 l = some l' → ∀ H' p, Fr Tb [] H H' → H' p = some (.tup (nIs l')) → Q (.ref p) H')))
theorem sc_next_weaving : FnScope ["ledger", "weaving", "waits", "done", "place", "some", "thread"] ["ledger", "weaving"] (defScope (top 38)) := ⟨rfl, rfl, rfl, by decide +kernel, rfl, by decide +kernel, by decide +kernel⟩
theorem ok_next_weaving (F : Fun K "next_weaving" "next_weaving" (top 38) f fd) (T : Txt mg) (C_need_ledger : Cl P w K mg base (L2.CX P w) 6 "need_ledger" (spNeedLedger Tb cL)) (C_need_keeping : Cl P w K mg base (L2.CX P w) 4 "need_keeping" (spKeeping Tb cW)) (C_need_few_stands : Cl P w K mg base (L2.CX P w) 3 "need_few_stands" (spFew cT))
    (C_woven : Cl P w K mg base CX0 3 "woven" (spWoven Tb)) (C_waits_of : Cl P w K mg base CX0 1 "waits_of" (spWaits Tb)) (C_let_threads : Cl P w K mg base CX0 2 "let_threads" (spLets Tb)) : FnOk P w K mg base (L2.CX P w) 8 f fd ["ledger", "weaving"] (spNext Tb cL cW cT) := by
  refine F.okX sc_next_weaving (fun vs H Q E h => ?_) (fun cdv A outer s H vs Q E hr h => ?_)
  · obtain ⟨x, y, rfl, h⟩ := h
    rfl
  · obtain ⟨x, y, rfl, h⟩ := h
    refine ⟨_, 
      (pss_cons (ps_expr (clX C_need_ledger hr (by decide) (by rfl) (passes_call (takes_of rfl rfl rfl rfl) fun _ _ _ _ h => h) (pa_cons (pv 0) pa_nil)))
      (pss_cons (ps_expr (clX C_need_keeping hr (by decide) (by rfl) (passes_call (takes_of rfl rfl rfl rfl) fun _ _ _ _ h => h) (pa_cons (pv 0) (pa_cons (pv 1) pa_nil))))
      (pss_cons (ps_expr (clX C_need_few_stands hr (by decide) (by rfl) (passes_call (takes_of rfl rfl rfl rfl) fun _ _ _ _ h => h) (pa_cons (pe_ix (ixT K) (pv 0) pe_int (fun _ _ => rfl)) pa_nil)))
      (pss_cons (ps_par (i := 2) (j := 3) (by rfl) sc_next_weaving.nd rfl rfl (by decide) rfl rfl (pa_cons (cl0 C_waits_of hr (by decide) (by rfl) (pa_cons (pe_ix (ixT K) (pv 0) pe_int (fun _ _ => rfl)) pa_nil)) (pa_cons (pe_callTy (crListOf K) (by rfl) T.f_list (by decide +kernel) (pa_cons (pe_ix (ixT K) (pv 0) pe_int (fun _ _ => rfl)) pa_nil)) pa_nil)) (by rfl))
      (pss_cons (PS_nox (ps_for PassesOwn.never rfl (pi_range3 (by rfl) T.f_range (pa_cons (pe_op op_sub (pe_callB (crLen K) (by rfl) T.f_len PySem.boot_len (pa_cons (pv 1) pa_nil)) pe_int) (pa_cons (pe_un un_neg pe_int) (pa_cons (pe_un un_neg pe_int) pa_nil)))) (pg_name (i := 4) sc_next_weaving.nd rfl (by first | exact Or.inl rfl | exact Or.inr rfl))
      (pss_cons (ps_augS (pv 3) (pe_ix (ix2K K) (pv 1) (pv 4) (fun _ _ => rfl)) (getL K) pe_int ip_sub set_list)
      (pss_cons (ps_setLc (i := 5) (own := [("thread", 6)]) (by rfl) sc_next_weaving.nd rfl rfl (sw_true rfl rfl rfl (by decide +kernel)) (piL K (cl0 C_let_threads hr (by decide) (by rfl) (pa_cons (pe_ix (ixT K) (pv 0) pe_int (fun _ _ => rfl)) (pa_cons (pv 2) (pa_cons (pv 3) pa_nil))))) (blkOk_by (by kernel_rfl)) (fun _ _ _ _ _ => (pg_name (i := 6) sc_next_weaving.nd rfl (by first | exact Or.inl rfl | exact Or.inr rfl))) (fun _ _ _ _ _ => (pts_one (pt_cmpR op_gt (pv 6) (pe_ix (ix2K K) (pv 1) (pv 4) (fun _ _ => rfl)) (nomark _)))) (fun _ _ _ _ _ => (pv 6)))
      (pss_one (ps_if (pt_cmpR (opNe K hr.units) (pv 5) (pe_lst pa_nil) (nomark _))
      (pss_cons (ps_augS (pv 3) (pe_ix (ixL K) (pv 5) pe_int (fun _ _ => rfl)) (getL K) pe_int ip_add set_list)
      (pss_one (ps_ret (pe_tup (paS K (PE_or (pe_slice (slL K) (pv 1) po_none (po_some (pv 4))) (pe_slice (slT K) (pv 1) po_none (po_some (pv 4)))) (pa_cons (pe_ix (ixL K) (pv 5) pe_int (fun _ _ => rfl)) (paS K (cl0 C_woven hr (by decide) (by rfl) (pa_cons (pe_ix (ixT K) (pv 0) pe_int (fun _ _ => rfl)) (pa_cons (pv 2) (pa_cons (pv 3) pa_nil)))) pa_nil))))))) pss_nil))))))
      (pss_one (ps_ret pe_non)))))))
      , ?_⟩
    rcases h with ⟨ho, k⟩ | ⟨a, c, En, rfl, hL, ok, h⟩
    · exact ⟨_, rfl, x, rfl, .inr ⟨ho, k⟩⟩
    · refine ⟨_, rfl, _, rfl, .inl ⟨a, c, En, rfl, hL, ok, fun H1 f1 => ⟨_, rfl, _, rfl, a, c, En, y, rfl, hL.fr f1, ok, ?_⟩⟩⟩
      rcases h with ⟨hb, k⟩ | ⟨b, l, hg, k1, k2⟩
      · exact .inl ⟨hb.fr f1, fun H' f => k _ (f1.trans f)⟩
      refine .inr ⟨b, l, hg.fr f1, fun H2 g2 => ?_⟩
      have f2 := f1.trans g2
      obtain ⟨ca, ea, vs, h1, h2, h3, h4⟩ := hL
      refine ⟨_, rfl, a, _, 0, _, rfl, rfl, SqT.of (f2.tup0 h1), rfl, ca, c, rfl, f2.tup0 h2, ok.len, ok.small, fun hf => ?_, fun hf => (k1 (by unfold Few; omega)).at f2⟩
      obtain ⟨kn, ks⟩ := k2 hf
      refine ⟨_, rfl, a, _, 1, _, rfl, rfl, SqT.of (f2.tup0 h1), rfl, ea, vs, En, rfl, f2.tup0 h3, h4.fr (fun a x q => q.fr f2), ok.few, fun H4 wd g4 _ hw => ?_⟩
      have f4 := f2.trans g4
      refine ⟨_, rfl, a, _, 0, _, rfl, rfl, SqT.of (f4.tup0 h1), rfl, ca, _, rfl, .inr (SqT.of (f4.tup0 h2)), fun dp hdp => ⟨_, _, rfl, ?_⟩⟩
      obtain ⟨rfl, hwv, hlen, hl4, hk⟩ := hg
      have hpath := (kept_iff ok.ents ok.len hl4).mp hk
      have le0 := Le.zero ok.len
      have g5 : Fr Tb [] H4 (upd H4 dp (.lst (nIs c))) := Fr.new hdp
      have hd5 : upd H4 dp (.lst (nIs c)) dp = some (.lst (nIs c)) := upd_same
      generalize upd H4 dp (.lst (nIs c)) = H5 at g5 hd5
      have hsq : SqL K H5 b (nIs l) ∨ SqT K H5 b (nIs l) := ((hwv.fr f4).fr g5).sq.sq
      refine ⟨_, rfl, b, _, rfl, hsq, _, _, rfl, rfl, 1, rfl, 1, rfl, ((nIs l).length : Int) - 1, -1, -1, l.length, rfl, ?_, ?_⟩
      · have e : ((((nIs l).length : Int) - 1) - (-1)).toNat = l.length := by rw [List.length_map]; omega
        rw [← e]
        rw [List.length_map]
        exact RgC.neg (by omega) (by omega) (by omega) (by omega)
      refine for_it (walk_rangeC (lo := ((nIs l).length : Int) - 1) (c := -1) (n := l.length)) (fun i σ H' => ∃ pl sm, σ = [some (.ref a), some (.ref b), some (.ref wd), some (.ref dp), pl, sm, none] ∧ Fr Tb [] H4 H' ∧ H' dp = some (.lst (nIs (runD zero4 (l.take (l.length - i))))) ∧ nxt c En (runD zero4 (l.take (l.length - i))) (l.drop (l.length - i)) = none) ?_ (fun _ _ _ _ _ => True.intro) ?_ ?_
      · refine ⟨none, none, rfl, g5, ?_, ?_⟩
        · rw [Nat.sub_zero, List.take_length, path_run hpath]
          exact hd5
        · rw [Nat.sub_zero, List.drop_length]
          rfl
      · rintro i x σ H5 H6 hi ⟨pl, sm, rfl, g6, hd6, hn⟩ ⟨rfl, rfl⟩
        obtain ⟨k, ek⟩ : ∃ k, l.length - i = k + 1 := ⟨l.length - i - 1, by omega⟩
        have ek1 : l.length - (i + 1) = k := by omega
        rw [ek] at hd6 hn
        rw [ek1]
        have ht : l[k]? = some (l[k]'(by omega)) := List.getElem?_eq_getElem _
        generalize l[k]'(by omega) = t at ht
        have t4 := hl4 t (List.mem_of_getElem? ht)
        rw [runD_snoc ht] at hd6 hn
        obtain ⟨hle, hpi⟩ := path_at k le0 hpath
        have hpre := fun r h => nxt_prefix (c := c) (E := En) (d := zero4) (l := l) (r := r) k h
        rw [drop_cons ht] at hpi hpre
        generalize hdd : runD zero4 (l.take k) = d at hd6 hn hle hpi hpre
        have hnx := nxt_here hn
        have dlt : t < d.length := by rw [hle.1]; exact t4
        have eix : V.int (((nIs l).length : Int) - 1 + (i : Nat) * (-1)) = nI k := by
          rw [List.length_map]
          show V.int _ = V.int _
          congr 1
          omega
        show gName 4 (V.int (((nIs l).length : Int) - 1 + (i : Nat) * (-1))) _ H6 _
        rw [eix]
        have hb6 : WvAt H6 b l := (hwv.fr f4).fr g6
        -- done[weaving[place]] -= 1
        refine ⟨_, rfl, _, rfl, _, rfl, ixW hb6 ht ⟨dp, _, t, nI (at0 (K81M.bump d t) t), rfl, rfl, SqL.of hd6, by omega, ?_, ?_⟩⟩
        · show (nIs (K81M.bump d t))[t]? = some (nI (at0 (K81M.bump d t) t))
          have : t < (K81M.bump d t).length := by rw [bump_length]; exact dlt
          rw [List.getElem?_map, List.getElem?_eq_getElem this]
          unfold at0
          rw [List.getD_eq_getElem?_getD, List.getElem?_eq_getElem this]
          rfl
        refine ⟨_, _, rfl, rfl, dp, _, t, t, rfl, rfl, hd6, ?_, ?_⟩
        · rw [List.length_map, bump_length]
          unfold ixN
          rw [if_pos (by omega), if_pos (by omega)]
          rfl
        have e5 : (nIs (K81M.bump d t)).set t (V.int ((at0 (K81M.bump d t) t : Int) - 1)) = nIs d := by
          have z : at0 (K81M.bump d t) t = at0 d t + 1 := by rw [at0_bump hle.1 t4, if_pos rfl]
          rw [z, show V.int (((at0 d t + 1 : Nat) : Int) - 1) = nI (at0 d t) by simp [nI], nIs_set, unbump dlt]
        rw [e5]
        have g7 : Fr Tb [] H4 (upd H6 dp (.lst (nIs d))) := g6.lstw (.inl hdp) hd6
        have hd7 : upd H6 dp (.lst (nIs d)) dp = some (.lst (nIs d)) := upd_same
        generalize upd H6 dp (.lst (nIs d)) = H7 at g7 hd7
        have f7 := f4.trans g7
        -- those that may come, behind this one
        refine ⟨_, rfl, a, _, 0, _, rfl, rfl, SqT.of (f7.tup0 h1), rfl, _, rfl, _, rfl, ca, wd, dp, c, d, En, rfl, f7.tup0 h2, ok.len, hw.fr g7, .inl hd7, hle.1, ok.ein, ok.few, fun H8 lp g8 _ hlp => ?_⟩
        have f8 := f7.trans g8
        have hd8 := g8.lst0 hd7
        refine ⟨lp, rfl, ⟨_, SqL.of hlp⟩, fun D hD => lc_list (K := K) (a := lp) (xs := nIs (lets c En d)) (fun j H' => Fr Tb [] H8 H' ∧ H' D = some (.lst (nIs (((lets c En d).take j).filter fun u => decide (t < u))))) ⟨Fr.new hD, upd_same⟩ (fun j H' _ q => SqL.of (q.1.lst0 hlp)) ?_ ?_⟩
        · rintro j x H' hx ⟨g9, hD9⟩
          obtain ⟨u, hu, rfl⟩ := nIs_at hx
          have hlu : ((lets c En d).take (j + 1)) = (lets c En d).take j ++ [u] := take_snoc hu
          have hb9 : WvAt H' b l := (hwv.fr f8).fr g9
          refine ⟨rfl, _, rfl, _, rfl, _, rfl, ixW hb9 ht ⟨_, _, rfl, rfl, _, rfl, ?_⟩⟩
          have eb : decide ((t : Int) < (u : Int)) = decide (t < u) := by
            by_cases z : t < u
            · rw [decide_eq_true z, decide_eq_true (by omega)]
            · rw [decide_eq_false z, decide_eq_false (by omega)]
          rw [eb]
          by_cases htu : t < u
          · rw [decide_eq_true htu]
            refine iteT ⟨_, rfl, _, hD9, ?_, g9.lstw (.inl hD) hD9, ?_⟩
            · rw [List.length_map]
              have z1 := List.length_filter_le (fun u => decide (t < u)) ((lets c En d).take j)
              have z2 := lets_le c En d
              rw [List.length_take] at z1
              exact Nat.lt_of_le_of_lt (by omega : _ ≤ 4) (by decide)
            · rw [upd_same, hlu, List.filter_append]
              simp [htu, nIs]
          · rw [decide_eq_false htu]
            refine iteF ⟨g9, ?_⟩
            rw [hlu, List.filter_append, hD9]
            simp [htu]
        · rintro H9 ⟨g9, hD9⟩
          rw [show (nIs (lets c En d)).length = (lets c En d).length from List.length_map _, List.take_length] at hD9
          have g49 := (g7.trans g8).trans g9
          have hd9 := g9.lst0 hd8
          refine ⟨_, rfl, Nat.zero_le _, fun z hz => ?_⟩
          have gz : Fr Tb [] H9 (upd H9 z (.lst [])) := Fr.new hz
          refine ne_nil_read (gz.lst0 hD9) upd_same ⟨_, rfl, ?_⟩
          have g10 := g49.trans gz
          have hd10 := gz.lst0 hd9
          have hD10 := gz.lst0 hD9
          generalize upd H9 z (.lst []) = H10 at g10 hd10 hD10
          cases hfl : (lets c En d).filter (fun u => decide (t < u)) with
          | nil =>
            rw [hfl] at hnx
            refine iteF ⟨_, _, rfl, g10, hd10, ?_⟩
            rw [drop_cons ht]
            exact hnx
          | cons u us =>
            rw [hfl] at hnx hD10
            have hum : u ∈ lets c En d := (List.mem_filter.mp (by rw [hfl]; exact List.mem_cons_self)).1
            have u4 := (mem_lets.mp hum).1
            have ult : u < d.length := by rw [hle.1]; exact u4
            refine iteT ?_
            -- done[some[0]] += 1
            refine ⟨_, rfl, _, rfl, D, _, 0, nI u, rfl, rfl, SqL.of hD10, atI_zero, dp, _, u, nI (at0 d u), rfl, rfl, SqL.of hd10, by omega, ?_, ?_⟩
            · show (nIs d)[u]? = some (nI (at0 d u))
              rw [List.getElem?_map, List.getElem?_eq_getElem ult]
              unfold at0
              rw [List.getD_eq_getElem?_getD, List.getElem?_eq_getElem ult]
              rfl
            refine ⟨_, _, rfl, rfl, dp, _, u, u, rfl, rfl, hd10, ?_, ?_⟩
            · rw [List.length_map]
              unfold ixN
              rw [if_pos (by omega), if_pos (by omega)]
              rfl
            have e6 : (nIs d).set u (V.int ((at0 d u : Int) + 1)) = nIs (K81M.bump d u) := by
              rw [show V.int ((at0 d u : Int) + 1) = nI (at0 d u + 1) by simp [nI], nIs_set]
              rfl
            rw [e6]
            have ndD : D ≠ dp := fun z => by rw [z, hd8] at hD; cases hD
            have g11 : Fr Tb [] H4 (upd H10 dp (.lst (nIs (K81M.bump d u)))) := g10.lstw (.inl hdp) hd10
            have hd11 : upd H10 dp (.lst (nIs (K81M.bump d u))) dp = some (.lst (nIs (K81M.bump d u))) := upd_same
            have hD11 : upd H10 dp (.lst (nIs (K81M.bump d u))) D = some (.lst (nIs (u :: us))) := by rw [upd_ne ndD]; exact hD10
            generalize upd H10 dp (.lst (nIs (K81M.bump d u))) = H11 at g11 hd11 hD11
            have f11 := f4.trans g11
            have hb11 : WvAt H11 b l := hwv.fr f11
            have fin : ∀ (H12 : Hp) (sp : Addr), Fr Tb [] H11 H12 → (SqT K H12 sp ((nIs l).take k) ∨ SqL K H12 sp ((nIs l).take k)) → tStar K (fun σ H Q => Q (.ref sp) H12) (tCons (tOp (rIxL K) (tVar 5) (tC (V.int 0))) (tStar K (tCl (spWoven Tb) E0 (tCons (tOp (rIxT K) (tVar 0) (tC (V.int 0))) (tCons (tVar 2) (tCons (tVar 3) tNil)))) tNil))
                [some (.ref a), some (.ref b), some (.ref wd), some (.ref dp), some (nI k), some (.ref D), none] H11 (fun xs H1 => xs.length ≤ sizeLine ∧ ∀ p, H1 p = none → Q (.ref p) (upd H1 p (.tup xs))) := fun H12 sp g12 hs => by
              have f12 := f11.trans g12
              refine ⟨sp, _, rfl, hs, _, rfl, D, _, 0, nI u, rfl, rfl, SqL.of (g12.lst0 hD11), atI_zero, _, rfl, a, _, 0, _, rfl, rfl, SqT.of (f12.tup0 h1), rfl, _, rfl, _, rfl, ca, wd, dp, c, K81M.bump d u, En, rfl, f12.tup0 h2, ok.good, (hw.fr g11).fr g12, .inl (g12.lst0 hd11), hle.lets hum, ok.ein, ok.few, ok.sum, fun H13 op g13 _ hop => ⟨op, _, rfl, .inr (SqL.of hop), ?_⟩⟩
              delta tNil
              dsimp only
              have el : (nIs l).take k ++ (nI u :: (nIs (wv c En (rem c (K81M.bump d u)) (K81M.bump d u)) ++ [])) = nIs (l.take k ++ u :: wv c En (rem c (K81M.bump d u)) (K81M.bump d u)) := by simp [nIs]
              rw [el]
              refine ⟨?_, fun p hp => ks _ (hpre _ hnx) _ p ((f12.trans g13).upd_new hp) upd_same⟩
              have z1 := (wv_path ok.good (hle.lets hum)).length (hle.lets hum)
              have z2 := ok.sum
              rw [List.length_map, List.length_append, List.length_cons, z1, List.length_take, sizeLine_eq]
              unfold rem
              omega
            rcases hb11 with hb11 | hb11
            · refine .inl ⟨_, rfl, _, rfl, ?_⟩
              dsimp only
              refine ⟨_, rfl, b, _, rfl, SqL.of hb11, fun p hp => ?_⟩
              rw [cutHi]
              exact fin _ p (Fr.new hp) (.inr (SqL.of upd_same))
            · refine .inr ⟨_, rfl, _, rfl, ?_⟩
              dsimp only
              refine ⟨_, rfl, slHi (T := Tb) hb11.sq fun p H12 g12 hp _ => ?_⟩
              exact fin _ p g12 (.inl hp)
      · rintro σ H' ⟨pl, sm, rfl, g6, hd6, hn⟩
        rw [Nat.sub_self, List.take_zero, List.drop_zero] at hn
        exact kn hn _ (f4.trans g6)
/-! ### weaving_at -/
def spAt (Tb : List (Addr × Str)) (cL cN cT : Addr) : Sp := fun vs H Q E => ∃ x y, vs = [x, y] ∧ ((Odd H x ∧ ∀ H', Fr Tb [] H H' → E (.ref cL) none H') ∨ ∃ a c En, x = .ref a ∧ LedAt H a c En ∧ LedOk c En ∧ Tabs Tb H ∧ (∃ t, TyS H y t) ∧ (¬ Few c → Rz Tb E H cT "most" (.int 20000)) ∧
  (Few c → isTh y ((W c En zero4 : Int) - 1) = false → Rz Tb E H cN "part" (.str "number")) ∧ (Few c → ∀ n : Nat, y = nI n → n < W c En zero4 → ∀ l, (every c En)[n]? = some l → ∀ H' p, Fr Tb [] H H' → FzT H' p (nIs l) → Q (.ref p) H'))
theorem sc_weaving_at : FnScope ["ledger", "number", "ways", "stand", "found", "left", "thread", "after"] ["ledger", "number"] (defScope (top 39)) := ⟨rfl, rfl, rfl, by decide +kernel, rfl, by decide +kernel, by decide +kernel⟩
theorem ok_weaving_at (F : Fun K "weaving_at" "weaving_at" (top 39) f fd) (T : Txt mg) (C_Ways : WaysC P w K mg base Tb C) (C_need_ledger : Cl P w K mg base (L2.CX P w) 6 "need_ledger" (spNeedLedger Tb cL)) (C_need_between : Cl P w K mg base (L2.CX P w) 3 "need_between" (spNeedBetween cN)) (C_need_few_stands : Cl P w K mg base (L2.CX P w) 3 "need_few_stands" (spFew cT))
    (C_stepped_stand : Cl P w K mg base CX0 1 "stepped_stand" (spStepped Tb)) (C_let_threads : Cl P w K mg base CX0 2 "let_threads" (spLets Tb)) : FnOk P w K mg base (L2.CX P w) 8 f fd ["ledger", "number"] (spAt Tb cL cN cT) := by
  refine F.okX sc_weaving_at (fun vs H Q E h => ?_) (fun cdv A outer s H vs Q E hr h => ?_)
  · obtain ⟨x, y, rfl, h⟩ := h
    rfl
  · obtain ⟨x, y, rfl, h⟩ := h
    refine ⟨_, 
      (pss_cons (ps_expr (clX C_need_ledger hr (by decide) (by rfl) (passes_call (takes_of rfl rfl rfl rfl) fun _ _ _ _ h => h) (pa_cons (pv 0) pa_nil)))
      (pss_cons (ps_expr (clX C_need_few_stands hr (by decide) (by rfl) (passes_call (takes_of rfl rfl rfl rfl) fun _ _ _ _ h => h) (pa_cons (pe_ix (ixT K) (pv 0) pe_int (fun _ _ => rfl)) pa_nil)))
      (pss_cons (ps_set (i := 2) sc_weaving_at.nd rfl (by first | exact Or.inl rfl | exact Or.inr rfl) (peWays C_Ways hr (by decide) (by rfl) (pv 0)))
      (pss_cons (ps_par (i := 3) (j := 4) (by rfl) sc_weaving_at.nd rfl rfl (by decide) rfl rfl (pa_cons (pe_op (opRep K) (pe_tup (pa_cons pe_int pa_nil)) (gI (by rfl) T.c_MOST_THREADS)) (pa_cons (pe_lst pa_nil) pa_nil)) (by rfl))
      (pss_cons (ps_expr (clX C_need_between hr (by decide) (by rfl) (passes_call (takes_of rfl rfl rfl rfl) fun _ _ _ _ h => h) (pa_cons (pv 1) (pa_cons pe_int (pa_cons (pe_op op_sub (pe_dget (hu_of hr) (peF K (pv 2)) (pv 3) (fun _ _ => rfl)) pe_int) (pa_cons pe_str pa_nil))))))
      (pss_cons (ps_set (i := 5) sc_weaving_at.nd rfl (by first | exact Or.inl rfl | exact Or.inr rfl) (pv 1))
      (pss_cons (PS_nox (ps_while PassesOwn.never (pt_cmpR (opNe K hr.units) (pv 3) (pe_ix (ixT K) (pv 0) pe_int (fun _ _ => rfl)) (nomark _))
      (pss_one (PS_nox (ps_for PassesOwn.never rfl (piL K (cl0 C_let_threads hr (by decide) (by rfl) (pa_cons (pe_ix (ixT K) (pv 0) pe_int (fun _ _ => rfl)) (pa_cons (peF K (pv 2)) (pa_cons (pv 3) pa_nil))))) (pg_name (i := 6) sc_weaving_at.nd rfl (by first | exact Or.inl rfl | exact Or.inr rfl))
      (pss_cons (ps_set (i := 7) sc_weaving_at.nd rfl (by first | exact Or.inl rfl | exact Or.inr rfl) (cl0 C_stepped_stand hr (by decide) (by rfl) (pa_cons (pv 3) (pa_cons (pv 6) pa_nil))))
      (pss_cons (ps_if (pt_cmpR op_lt (pv 5) (pe_dget (hu_of hr) (peF K (pv 2)) (pv 7) (fun _ _ => rfl)) (nomark _))
      (pss_cons (ps_expr (peBm K PySem.F.plainAttrs_list PySem.F.slot_list_append PySem.F.type_list_append mt_append (pv 4) (pa_cons (pv 6) pa_nil)))
      (pss_cons (ps_set (i := 3) sc_weaving_at.nd rfl (by first | exact Or.inl rfl | exact Or.inr rfl) (pv 7))
      (pss_one ps_break))) pss_nil)
      (pss_one (ps_aug (i := 5) sc_weaving_at.nd rfl (by first | exact Or.inl rfl | exact Or.inr rfl) (pe_dget (hu_of hr) (peF K (pv 2)) (pv 7) (fun _ _ => rfl)) ip_sub)))))))))
      (pss_one (ps_ret (pe_callTy (crTupF K) (by rfl) T.f_tuple (by decide +kernel) (pa_cons (pv 4) pa_nil)))))))))))
      , ?_⟩
    rcases h with ⟨ho, k⟩ | ⟨a, c, En, rfl, hL, ok, hT, ⟨ty, hty⟩, k1, k2, k3⟩
    · exact ⟨_, rfl, x, rfl, .inr ⟨ho, k⟩⟩
    · refine ⟨_, rfl, _, rfl, .inl ⟨a, c, En, rfl, hL, ok, fun H2 f2 => ?_⟩⟩
      have hL0 := hL
      obtain ⟨ca, ea, vs, h1, h2, h3, h4⟩ := hL0
      refine ⟨_, rfl, a, _, 0, _, rfl, rfl, SqT.of (f2.tup0 h1), rfl, ca, c, rfl, f2.tup0 h2, ok.len, ok.small, fun hf => ?_, fun hf => (k1 (by unfold Few; omega)).at f2⟩
      refine ⟨_, rfl, a, c, En, rfl, hL.fr f2, ok, hf, f2.tabs hT, fun H3 wa g3 _ hW => ?_⟩
      have f3 := f2.trans g3
      refine ⟨by show 1 ≤ sizeLine; decide, fun p hp => ⟨p, 4, _, rfl, rfl, SqT.of upd_same, by simp, by decide, by decide, by decide, fun z hz => ⟨Nat.zero_le _, fun lp hlp => ⟨_, _, rfl, ?_⟩⟩⟩⟩
      have g4 : Fr Tb [] H3 (upd (upd H3 p (.tup [nI 0])) z (.tup (nIs zero4))) := (Fr.new hp).upd_new hz
      have f4 := f3.trans g4
      have hW4 := hW.fr g4
      have hz4 : upd (upd H3 p (.tup [nI 0])) z (.tup (nIs zero4)) z = some (.tup (nIs zero4)) := upd_same
      show tSeq _ _ _ _ (upd (upd (upd H3 p (.tup [nI 0])) z (.tup (nIs zero4))) lp (.lst []))
      have hlp : upd (upd H3 p (.tup [nI 0])) z (.tup (nIs zero4)) lp = none := hlp
      generalize upd (upd H3 p (.tup [nI 0])) z (.tup (nIs zero4)) = H4 at f4 hW4 hz4 hlp
      have g5 : Fr Tb [] H4 (upd H4 lp (.lst [])) := Fr.new hlp
      have hl5 : upd H4 lp (.lst []) lp = some (.lst []) := upd_same
      generalize upd H4 lp (.lst []) = H5 at g5 hl5
      have f5 := f4.trans g5
      obtain ⟨dx, fs, cw, wd, ya, kvs, hI, l1, hcw, l2, hwd, l3, hy, hval⟩ := hW4
      have hI' : ∀ {H'}, Fr Tb [] H4 H' → H' wa = some (.ins C dx fs) := fun g => g.ext _ _ hI (by simp) fun _ z => by cases z
      have hy' : ∀ {H'}, Fr Tb [] H4 H' → H' ya = some (.dT kvs) := fun g => g.ext _ _ hy (by simp) fun _ z => by cases z
      have le0 := Le.zero ok.len
      refine ⟨_, rfl, _, rfl, wa, C, dx, fs, _, rfl, hI' g5, C_Ways.wc.cls, C_Ways.wc.n3, l3, _, rfl, ya, nI (W c En zero4), rfl, ?_, _, _, rfl, rfl, ?_⟩
      · rw [← hval _ le0]
        exact DGet.t (hy' g5) (by rw [dk_kV]; exact g5.tup0 hz4)
      refine ⟨y, (W c En zero4 : Int) - 1, "number", rfl, ⟨ty, hty.fr f5⟩, fun hth => ?_, fun hth => (k2 hf hth).at f5⟩
      obtain ⟨n, rfl, hn⟩ : ∃ n : Nat, y = nI n ∧ n < W c En zero4 := by
        cases y with
        | int i =>
          have z := of_decide_eq_true hth
          exact ⟨i.toNat, by show V.int i = V.int _; congr 1; omega, by omega⟩
        | _ => exact absurd (show false = true from hth) (by decide)
      obtain ⟨l, hl⟩ : ∃ l, (every c En)[n]? = some l := ⟨_, List.getElem?_eq_getElem (by rw [every_length]; exact hn)⟩
      refine ⟨_, rfl, ?_⟩
      refine ⟨fun m σ H' => ∃ (sa : Addr) (d w : List Nat) (k : Nat) (t af : Option V), σ = [some (.ref a), some (nI n), some (.ref wa), some (.ref sa), some (.ref lp), some (nI k), t, af] ∧ Fr Tb [] H4 H' ∧ TupAt H' sa d ∧ H' lp = some (.lst (nIs w)) ∧ Le d c ∧ rem c d = m ∧ k < W c En d ∧
        (∀ r, (allW c En (rem c d) d)[k]? = some r → (every c En)[n]? = some (w ++ r)) ∧ w.length + m ≤ 100000, ⟨rem c zero4, z, zero4, [], n, none, none, rfl, g5, g5.tup0 hz4, hl5, le0, rfl, hn, fun r hr => by rw [every_rem]; exact hr, ?_⟩, ?_⟩
      · have := ok.sum
        unfold rem zero4
        simp
        omega
      rintro m σ H' ⟨sa, d, w', k', t0, af0, rfl, g6, hs6, hl6, hle, hm, hk, hev, hwl⟩
      have f6 := f4.trans g6
      refine ⟨_, rfl, _, rfl, a, _, 0, _, rfl, rfl, SqT.of (f6.tup0 h1), rfl, .tuple (nD d), .tuple (nD c), .tup (SqT.of hs6) (dpN _), .tup (SqT.of (f6.tup0 h2)) (dpN _), shapedT _, shapedT _, ?_⟩
      rw [eqvT]
      by_cases hdc : d = c
      · rw [decide_eq_true hdc]
        refine ⟨_, rfl, iteF ⟨_, rfl, lp, _, rfl, SqL.of hl6, NewF.of (T := Tb) fun p H7 g7 _ hp => ?_⟩⟩
        subst hdc
        rw [W_self] at hk
        have k0 : k' = 0 := by omega
        have z := hev [] (by rw [k0, rem_self]; rfl)
        rw [List.append_nil] at z
        exact k3 hf n rfl hn w' z _ p (f6.trans g7) hp
      · rw [decide_eq_false hdc]
        obtain ⟨m0, em⟩ := rem_pos hle hdc
        rw [hm] at em
        subst em
        obtain ⟨t, j, hpick, htm, hj, hdn⟩ := down hle hdc hk
        refine ⟨_, rfl, iteT ⟨fun σ' H' => ∃ (sa : Addr) (d w : List Nat) (k : Nat) (t af : Option V), σ' = [some (.ref a), some (nI n), some (.ref wa), some (.ref sa), some (.ref lp), some (nI k), t, af] ∧ Fr Tb [] H4 H' ∧ TupAt H' sa d ∧ H' lp = some (.lst (nIs w)) ∧ Le d c ∧ rem c d = m0 ∧ k < W c En d ∧
          (∀ r, (allW c En (rem c d) d)[k]? = some r → (every c En)[n]? = some (w ++ r)) ∧ w.length + m0 ≤ 100000, fun σ' H' h => ⟨m0, Nat.lt_succ_self m0, h⟩, ?_⟩⟩
        refine ⟨_, rfl, a, _, 0, _, rfl, rfl, SqT.of (f6.tup0 h1), rfl, _, rfl, wa, C, dx, fs, _, rfl, hI' g6, C_Ways.wc.cls, C_Ways.wc.n2, l2, _, rfl, ca, wd, sa, c, d, En, rfl, f6.tup0 h2, ok.len, hwd.fr g6, .inr hs6, hle.1, ok.ein, ok.few, fun H7 lt g7 _ hlt => ?_⟩
        have nlt : lt ≠ lp ∨ True := .inr trivial
        have g47 := g6.trans g7
        refine ⟨lt, rfl, ⟨_, SqL.of hlt⟩, for_list (K := K) (a := lt) (xs := nIs (lets c En d)) (fun i σ H' => ∃ (k : Nat) (o1 o2 : Option V), σ = [some (.ref a), some (nI n), some (.ref wa), some (.ref sa), some (.ref lp), some (nI k), o1, o2] ∧ Fr Tb [] H7 H' ∧ pick c En d ((lets c En d).drop i) k = some (t, j)) ⟨k', t0, af0, rfl, .refl, by rw [List.drop_zero]; exact hpick⟩ (fun i σ H' _ ⟨_, _, _, _, g, _⟩ => SqL.of (g.lst0 hlt)) ?_ ?_⟩
        · rintro i x σ H8 hx ⟨k8, o1, o2, rfl, g8, hp8⟩
          obtain ⟨u, hu, rfl⟩ := nIs_at hx
          have hum := List.mem_of_getElem? hu
          have u4 := (mem_lets.mp hum).1
          have g48 := g47.trans g8
          have hs8 : TupAt H8 sa d := (g7.trans g8).tup0 hs6
          rw [drop_cons hu] at hp8
          unfold pick at hp8
          refine ⟨_, rfl, _, rfl, sa, d, u, rfl, hs8, hle.1, u4, fun H9 af g9 _ haf => ?_⟩
          have g49 := g48.trans g9
          have hkey : H9 af = some (.tup ((dk (K81M.bump d u)).map kV)) := by rw [dk_kV]; exact haf
          refine ⟨_, rfl, _, rfl, wa, C, dx, fs, _, rfl, hI' g49, C_Ways.wc.cls, C_Ways.wc.n3, l3, _, rfl, ya, nI (W c En (K81M.bump d u)), rfl, ?_, _, _, rfl, rfl, _, rfl, ?_⟩
          · rw [← hval _ (hle.lets hum)]
            exact DGet.t (hy' g49) hkey
          have eb : decide ((k8 : Int) < (W c En (K81M.bump d u) : Int)) = decide (k8 < W c En (K81M.bump d u)) := by
            by_cases z : k8 < W c En (K81M.bump d u)
            · rw [decide_eq_true z, decide_eq_true (by omega)]
            · rw [decide_eq_false z, decide_eq_false (by omega)]
          rw [eb]
          by_cases hkw : k8 < W c En (K81M.bump d u)
          · rw [decide_eq_true hkw]
            rw [if_pos hkw] at hp8
            have e := Option.some.inj hp8
            injection e with e1 e2
            subst e1 e2
            have hl9 : H9 lp = some (.lst (nIs w')) := ((g7.trans g8).trans g9).lst0 hl6
            refine iteT ⟨_, rfl, .inl ⟨rfl, _, SqL.of hl9⟩, _, rfl, lp, _, _, rfl, rfl, hl9, ?_, _, rfl, af, K81M.bump d u, w' ++ [u], k8, some (nI u), some (.ref af), rfl, g49.lstw (.inl hlp) hl9, ?_, ?_, hle.lets hum, rem_bump hle hum hm, hj, fun r hr => ?_, ?_⟩
            · rw [List.length_map]
              exact Nat.lt_of_le_of_lt (by omega : w'.length ≤ 100000) (by decide)
            · unfold TupAt
              rw [upd_ne (ne_of haf hl9 (by intro y; cases y))]
              exact haf
            · rw [upd_same]
              simp [nIs]
            · have z := hev _ (hdn r hr)
              rw [List.append_assoc]
              exact z
            · rw [List.length_append, List.length_singleton]
              omega
          · rw [decide_eq_false hkw]
            rw [if_neg hkw] at hp8
            refine iteF ⟨_, rfl, _, rfl, wa, C, dx, fs, _, rfl, hI' g49, C_Ways.wc.cls, C_Ways.wc.n3, l3, _, rfl, ya, nI (W c En (K81M.bump d u)), rfl, ?_, _, _, rfl, rfl, k8 - W c En (K81M.bump d u), some (nI u), some (.ref af), ?_, g8.trans g9, hp8⟩
            · rw [← hval _ (hle.lets hum)]
              exact DGet.t (hy' g49) hkey
            · have ei : V.int ((k8 : Int) - (W c En (K81M.bump d u) : Int)) = nI (k8 - W c En (K81M.bump d u)) := by
                show V.int _ = V.int _
                congr 1
                omega
              show _ = [some (V.ref a), some (nI n), some (.ref wa), some (.ref sa), some (.ref lp), some (nI (k8 - W c En (K81M.bump d u))), some (nI u), some (.ref af)]
              rw [← ei]
              rfl
        · rintro σ H8 ⟨k8, o1, o2, rfl, g8, hp8⟩
          rw [show (nIs (lets c En d)).length = (lets c En d).length from List.length_map _, List.drop_length] at hp8
          cases hp8
/-! ### place_of -/
def spPlace (Tb : List (Addr × Str)) (cL cW cT : Addr) : Sp := fun vs H Q E => ∃ x y, vs = [x, y] ∧ ((Odd H x ∧ ∀ H', Fr Tb [] H H' → E (.ref cL) none H') ∨ ∃ a c En, x = .ref a ∧ LedAt H a c En ∧ LedOk c En ∧ Tabs Tb H ∧ ((BadWv H c En y ∧ ∀ H', Fr Tb [] H H' → E (.ref cW) none H') ∨
  ∃ b l, GoodWv H c En y b l ∧ (¬ Few c → Rz Tb E H cT "most" (.int 20000)) ∧ (Few c → ∀ H', Fr Tb [] H H' → Q (nI (plc c En zero4 l)) H')))
theorem sc_place_of : FnScope ["ledger", "weaving", "ways", "stand", "found", "thread", "other"] ["ledger", "weaving"] (defScope (top 40)) := ⟨rfl, rfl, rfl, by decide +kernel, rfl, by decide +kernel, by decide +kernel⟩
theorem ok_place_of (F : Fun K "place_of" "place_of" (top 40) f fd) (T : Txt mg) (C_Ways : WaysC P w K mg base Tb C) (C_need_ledger : Cl P w K mg base (L2.CX P w) 6 "need_ledger" (spNeedLedger Tb cL)) (C_need_keeping : Cl P w K mg base (L2.CX P w) 4 "need_keeping" (spKeeping Tb cW)) (C_need_few_stands : Cl P w K mg base (L2.CX P w) 3 "need_few_stands" (spFew cT))
    (C_stepped_stand : Cl P w K mg base CX0 1 "stepped_stand" (spStepped Tb)) (C_let_threads : Cl P w K mg base CX0 2 "let_threads" (spLets Tb)) : FnOk P w K mg base (L2.CX P w) 8 f fd ["ledger", "weaving"] (spPlace Tb cL cW cT) := by
  refine F.okX sc_place_of (fun vs H Q E h => ?_) (fun cdv A outer s H vs Q E hr h => ?_)
  · obtain ⟨x, y, rfl, h⟩ := h
    rfl
  · obtain ⟨x, y, rfl, h⟩ := h
    refine ⟨_, 
      (pss_cons (ps_expr (clX C_need_ledger hr (by decide) (by rfl) (passes_call (takes_of rfl rfl rfl rfl) fun _ _ _ _ h => h) (pa_cons (pv 0) pa_nil)))
      (pss_cons (ps_expr (clX C_need_keeping hr (by decide) (by rfl) (passes_call (takes_of rfl rfl rfl rfl) fun _ _ _ _ h => h) (pa_cons (pv 0) (pa_cons (pv 1) pa_nil))))
      (pss_cons (ps_expr (clX C_need_few_stands hr (by decide) (by rfl) (passes_call (takes_of rfl rfl rfl rfl) fun _ _ _ _ h => h) (pa_cons (pe_ix (ixT K) (pv 0) pe_int (fun _ _ => rfl)) pa_nil)))
      (pss_cons (ps_set (i := 2) sc_place_of.nd rfl (by first | exact Or.inl rfl | exact Or.inr rfl) (peWays C_Ways hr (by decide) (by rfl) (pv 0)))
      (pss_cons (ps_par (i := 3) (j := 4) (by rfl) sc_place_of.nd rfl rfl (by decide) rfl rfl (pa_cons (pe_op (opRep K) (pe_tup (pa_cons pe_int pa_nil)) (gI (by rfl) T.c_MOST_THREADS)) (pa_cons pe_int pa_nil)) (by rfl))
      (pss_cons (PS_nox (ps_for PassesOwn.never rfl (piSq K (pv 1)) (pg_name (i := 5) sc_place_of.nd rfl (by first | exact Or.inl rfl | exact Or.inr rfl))
      (pss_cons (PS_nox (ps_for PassesOwn.never rfl (piL K (cl0 C_let_threads hr (by decide) (by rfl) (pa_cons (pe_ix (ixT K) (pv 0) pe_int (fun _ _ => rfl)) (pa_cons (peF K (pv 2)) (pa_cons (pv 3) pa_nil))))) (pg_name (i := 6) sc_place_of.nd rfl (by first | exact Or.inl rfl | exact Or.inr rfl))
      (pss_one (ps_if (pt_cmpR op_lt (pv 6) (pv 5) (nomark _))
      (pss_one (ps_aug (i := 4) sc_place_of.nd rfl (by first | exact Or.inl rfl | exact Or.inr rfl) (pe_dget (hu_of hr) (peF K (pv 2)) (cl0 C_stepped_stand hr (by decide) (by rfl) (pa_cons (pv 3) (pa_cons (pv 6) pa_nil))) (fun _ _ => rfl)) ip_add)) pss_nil))))
      (pss_one (ps_set (i := 3) sc_place_of.nd rfl (by first | exact Or.inl rfl | exact Or.inr rfl) (cl0 C_stepped_stand hr (by decide) (by rfl) (pa_cons (pv 3) (pa_cons (pv 5) pa_nil))))))))
      (pss_one (ps_ret (pv 4)))))))))
      , ?_⟩
    rcases h with ⟨ho, k⟩ | ⟨a, c, En, rfl, hL, ok, hT, h⟩
    · exact ⟨_, rfl, x, rfl, .inr ⟨ho, k⟩⟩
    · refine ⟨_, rfl, _, rfl, .inl ⟨a, c, En, rfl, hL, ok, fun H1 f1 => ⟨_, rfl, _, rfl, a, c, En, y, rfl, hL.fr f1, ok, ?_⟩⟩⟩
      rcases h with ⟨hb, k⟩ | ⟨b, l, hg, k1, k2⟩
      · exact .inl ⟨hb.fr f1, fun H' f => k _ (f1.trans f)⟩
      refine .inr ⟨b, l, hg.fr f1, fun H2 g2 => ?_⟩
      have f2 := f1.trans g2
      have hL0 := hL
      obtain ⟨ca, ea, vs, h1, h2, h3, h4⟩ := hL0
      refine ⟨_, rfl, a, _, 0, _, rfl, rfl, SqT.of (f2.tup0 h1), rfl, ca, c, rfl, f2.tup0 h2, ok.len, ok.small, fun hf => ?_, fun hf => (k1 (by unfold Few; omega)).at f2⟩
      refine ⟨_, rfl, a, c, En, rfl, hL.fr f2, ok, hf, f2.tabs hT, fun H3 wa g3 _ hW => ?_⟩
      have f3 := f2.trans g3
      refine ⟨by show 1 ≤ sizeLine; decide, fun p hp => ⟨p, 4, _, rfl, rfl, SqT.of upd_same, by simp, by decide, by decide, by decide, fun z hz => ?_⟩⟩
      have g4 : Fr Tb [] H3 (upd (upd H3 p (.tup [nI 0])) z (.tup (nIs zero4))) := (Fr.new hp).upd_new hz
      have f4 := f3.trans g4
      have hW4 := hW.fr g4
      have hz4 : upd (upd H3 p (.tup [nI 0])) z (.tup (nIs zero4)) z = some (.tup (nIs zero4)) := upd_same
      refine ⟨_, _, rfl, ?_⟩
      show tSeq _ _ _ _ (upd (upd H3 p (.tup [nI 0])) z (.tup (nIs zero4)))
      generalize upd (upd H3 p (.tup [nI 0])) z (.tup (nIs zero4)) = H4 at f4 hW4 hz4
      obtain ⟨rfl, hwv, hlen, hl4, hk⟩ := hg
      have hpath := (kept_iff ok.ents ok.len hl4).mp hk
      have le0 := Le.zero ok.len
      refine forSq (T := Tb) hwv.sq rfl (fun i σ H' => ∃ sa n t o, σ = [some (.ref a), some (.ref b), some (.ref wa), some (.ref sa), some (nI n), t, o] ∧ Fr Tb [] H H' ∧ WaysAt C H' wa c En ∧ TupAt H' sa (runD zero4 (l.take i)) ∧ plc c En zero4 l = n + plc c En (runD zero4 (l.take i)) (l.drop i)) ?_ (fun i σ' H' _ ⟨_, _, _, _, _, f, _⟩ => f) ?_ ?_
      · exact ⟨z, 0, none, none, rfl, f4, hW4, hz4, by rw [List.take_zero, List.drop_zero, Nat.zero_add]; rfl⟩
      · rintro i x σ H' hx ⟨sa, n, t0, o0, rfl, f5, hW5, hs5, hpl⟩
        obtain ⟨t, ht, rfl⟩ := nIs_at hx
        have t4 := hl4 t (List.mem_of_getElem? ht)
        obtain ⟨hle, hpi⟩ := path_at i le0 hpath
        rw [drop_cons ht] at hpl hpi
        have hplc : plc c En (runD zero4 (l.take i)) (t :: l.drop (i + 1)) = (((lets c En (runD zero4 (l.take i))).filter fun u => decide (u < t)).map fun u => W c En (K81M.bump (runD zero4 (l.take i)) u)).sum + plc c En (runD zero4 (l.take (i + 1))) (l.drop (i + 1)) := by
          rw [runD_snoc ht]
          rfl
        rw [hplc, runD_snoc ht] at hpl
        rw [runD_snoc ht]
        generalize runD zero4 (l.take i) = d at hs5 hle hpi hpl
        have hW5' := hW5
        obtain ⟨dx, fs, cw, wd, ya, kvs, hI, l1, hcw, l2, hwd, l3, hy, hval⟩ := hW5'
        refine ⟨_, rfl, a, _, 0, _, rfl, rfl, SqT.of (f5.tup0 h1), rfl, _, rfl, wa, C, dx, fs, _, rfl, hI, C_Ways.wc.cls, C_Ways.wc.n2, l2, _, rfl, ca, wd, sa, c, d, En, rfl, f5.tup0 h2, ok.len, hwd, .inr hs5, hle.1, ok.ein, ok.few, fun H6 lp g6 _ hlp => ?_⟩
        have f6 := f5.trans g6
        refine ⟨lp, rfl, ⟨_, SqL.of hlp⟩, for_list (K := K) (a := lp) (xs := nIs (lets c En d)) (fun j σ H' => ∃ o, σ = [some (.ref a), some (.ref b), some (.ref wa), some (.ref sa), some (nI (n + ((((lets c En d).take j).filter fun u => decide (u < t)).map fun u => W c En (K81M.bump d u)).sum)), some (nI t), o] ∧ Fr Tb [] H6 H') ⟨_, rfl, .refl⟩ (fun j σ H' _ ⟨_, _, g⟩ => SqL.of (g.lst0 hlp)) ?_ ?_⟩
        · rintro j x σ H' hx ⟨o1, rfl, g7⟩
          obtain ⟨u, hu, rfl⟩ := nIs_at hx
          have hum := List.mem_of_getElem? hu
          have u4 := (mem_lets.mp hum).1
          have hlu : ((lets c En d).take (j + 1)) = (lets c En d).take j ++ [u] := take_snoc hu
          refine ⟨_, rfl, _, rfl, _, _, rfl, rfl, _, rfl, ?_⟩
          have eb : decide ((u : Int) < (t : Int)) = decide (u < t) := by
            by_cases z : u < t
            · rw [decide_eq_true z, decide_eq_true (by omega)]
            · rw [decide_eq_false z, decide_eq_false (by omega)]
          rw [eb]
          by_cases hut : u < t
          · rw [decide_eq_true hut]
            refine iteT ?_
            have hI7 : H' wa = some (.ins C dx fs) := g7.ext _ _ (g6.ext _ _ hI (by simp) fun _ z => by cases z) (by simp) fun _ z => by cases z
            have hs7 : TupAt H' sa d := (g6.trans g7).tup0 hs5
            refine ⟨_, rfl, _, rfl, wa, C, dx, fs, _, rfl, hI7, C_Ways.wc.cls, C_Ways.wc.n3, l3, _, rfl, _, rfl, sa, d, u, rfl, hs7, hle.1, u4, fun H8 p8 g8 _ hp8 => ?_⟩
            have hy8 : H8 ya = some (.dT kvs) := g8.ext _ _ (g7.ext _ _ (g6.ext _ _ hy (by simp) fun _ z => by cases z) (by simp) fun _ z => by cases z) (by simp) fun _ z => by cases z
            refine ⟨ya, nI (W c En (K81M.bump d u)), rfl, ?_, _, _, rfl, rfl, some (nI u), ?_, g7.trans g8⟩
            · rw [← hval _ (hle.lets hum)]
              exact DGet.t hy8 (by rw [dk_kV]; exact hp8)
            · rw [hlu, List.filter_append, List.map_append, List.sum_append]
              simp [hut, nI]
              omega
          · rw [decide_eq_false hut]
            refine iteF ⟨some (nI u), ?_, g7⟩
            rw [hlu, List.filter_append]
            simp [hut]
        · rintro σ H' ⟨o1, rfl, g7⟩
          rw [show (nIs (lets c En d)).length = (lets c En d).length from List.length_map _, List.take_length]
          have hs7 : TupAt H' sa d := (g6.trans g7).tup0 hs5
          refine ⟨_, rfl, _, rfl, sa, d, t, rfl, hs7, hle.1, t4, fun H8 p8 g8 _ hp8 => ⟨p8, _, some (nI t), o1, rfl, (f6.trans g7).trans g8, (hW5.fr (g6.trans g7)).fr g8, hp8, ?_⟩⟩
          omega
      · rintro σ H' ⟨sa, n, t0, o0, rfl, f5, _, _, hpl⟩
        refine ⟨_, rfl, ?_⟩
        rw [show (nIs l).length = l.length from List.length_map _, List.take_length, List.drop_length] at hpl
        have e : plc c En zero4 l = n := hpl
        have z := k2 hf _ f5
        rw [e] at z
        exact z
end
end K81
set_option maxHeartbeats 2000000
namespace K81
open PySem PySem.Spec PyProof.Rows L2 LamX K81M StX RZ
/-! ### the draw -/
def sK (x : String) : Key := .inr (Str.ofString x)
def dkv (l : Addr) (r : Int) (c : Addr) (t : Int) : List (Key × V) := [(sK "large", .ref l), (sK "rest", .int r), (sK "cells", .ref c), (sK "turn", .int t)]
def DrawAt (H : Hp) (d l c : Addr) : Prop := ∃ (r t : Int) (ls zs : List Int), H d = some (.dK (dkv l r c t)) ∧ H l = some (.lst (ls.map V.int)) ∧ H c = some (.lst (zs.map V.int)) ∧ c ≠ l
theorem put_rest {l c : Addr} {r t z : Int} : putK (dkv l r c t) (sK "rest") (.int z) = dkv l z c t := by rfl
theorem put_turn {l c : Addr} {r t z : Int} : putK (dkv l r c t) (sK "turn") (.int z) = dkv l r c z := by rfl
theorem get_large {l c : Addr} {r t : Int} : valV (dkv l r c t) (sK "large") = some (.ref l) := by rfl
theorem get_rest {l c : Addr} {r t : Int} : valV (dkv l r c t) (sK "rest") = some (.int r) := by rfl
theorem get_cells {l c : Addr} {r t : Int} : valV (dkv l r c t) (sK "cells") = some (.ref c) := by rfl
theorem get_turn {l c : Addr} {r t : Int} : valV (dkv l r c t) (sK "turn") = some (.int t) := by rfl
section
variable {H : Hp} {d l c : Addr} {r t z : Int}
theorem dg_large (h : H d = some (.dK (dkv l r c t))) : DGet H d (.str (Str.ofString "large")) (some (.ref l)) := DGet.k (k := sK "large") h
theorem dg_rest (h : H d = some (.dK (dkv l r c t))) : DGet H d (.str (Str.ofString "rest")) (some (.int r)) := DGet.k (k := sK "rest") h
theorem dg_cells (h : H d = some (.dK (dkv l r c t))) : DGet H d (.str (Str.ofString "cells")) (some (.ref c)) := DGet.k (k := sK "cells") h
theorem dg_turn (h : H d = some (.dK (dkv l r c t))) : DGet H d (.str (Str.ofString "turn")) (some (.int t)) := DGet.k (k := sK "turn") h
theorem dp_rest (h : H d = some (.dK (dkv l r c t))) : DPut H d (.str (Str.ofString "rest")) (.int z) (upd H d (.dK (dkv l z c t))) := DPut.k (k := sK "rest") (v := .int z) h (by show 4 < sizeLine; decide)
theorem dp_turn (h : H d = some (.dK (dkv l r c t))) : DPut H d (.str (Str.ofString "turn")) (.int z) (upd H d (.dK (dkv l r c z))) := DPut.k (k := sK "turn") (v := .int z) h (by show 4 < sizeLine; decide)
end
theorem DrawAt.fr {T : List (Addr × Str)} {S : List Addr} {H H' : Hp} {d l c : Addr} (h : DrawAt H d l c) (f : Fr T [] H H') : DrawAt H' d l c := by
  obtain ⟨r, t, ls, zs, h1, h2, h3, h4⟩ := h
  exact ⟨r, t, ls, zs, f.ext _ _ h1 (by simp) (fun _ z => by cases z), f.lst0 h2, f.lst0 h3, h4⟩
theorem DrawAt.new {H : Hp} {d l c p : Addr} (h : DrawAt H d l c) (hp : H p = none) : p ≠ l ∧ p ≠ d ∧ p ≠ c := by
  obtain ⟨r, t, ls, zs, h1, h2, h3, h4⟩ := h
  exact ⟨fun z => (by rw [z, h2] at hp; cases hp), fun z => (by rw [z, h1] at hp; cases hp), fun z => (by rw [z, h3] at hp; cases hp)⟩
theorem DrawAt.put {H : Hp} {d l c p : Addr} {o : HO} (h : DrawAt H d l c) (n : p ≠ l ∧ p ≠ d ∧ p ≠ c) : DrawAt (upd H p o) d l c := by
  obtain ⟨r, t, ls, zs, h1, h2, h3, h4⟩ := h
  exact ⟨r, t, ls, zs, by rw [upd_ne n.2.1.symm]; exact h1, by rw [upd_ne n.1.symm]; exact h2, by rw [upd_ne n.2.2.symm]; exact h3, h4⟩
theorem seqIx_nat {v n : Nat} (h : v < n) : seqIndex? (v : Int) n = some v := by
  have e : (if (v : Int) < 0 then (v : Int) + (n : Int) else (v : Int)) = (v : Int) := if_neg (by omega)
  have z : (decide (0 ≤ (v : Int)) && decide ((v : Int) < (n : Int))) = true := by
    rw [decide_eq_true (by omega), decide_eq_true (by omega)]
    rfl
  simp only [seqIndex?, e, z, if_true, Int.toNat_natCast]
theorem erase_perm : ∀ (l : List Nat) (v : Nat) (h : v < l.length), ([l[v]] ++ l.eraseIdx v).Perm l
  | [], v, h => absurd h (Nat.not_lt_zero _)
  | x :: l, 0, h => List.Perm.refl _
  | x :: l, v + 1, h => by
    have hv : v < l.length := by simpa using h
    have z := erase_perm l v hv
    show (l[v] :: x :: l.eraseIdx v).Perm (x :: l)
    exact (List.Perm.swap _ _ _).trans (List.Perm.cons _ z)
theorem erase_nIs : ∀ (l : List Nat) (v : Nat), (nIs l).eraseIdx v = nIs (l.eraseIdx v)
  | [], _ => rfl
  | x :: l, 0 => rfl
  | x :: l, v + 1 => by
    show nI x :: (nIs l).eraseIdx v = nI x :: nIs (l.eraseIdx v)
    rw [erase_nIs l v]
section
variable {P : Program} {w : World} {K : PySem.W.Frag} {mg : Str → Option Value} {base : Heap} {Tb : List (Addr × Str)} {f : Addr} {fd : FuncData}
/-! ### _law_begun -/
def spBegun (K : PySem.W.Frag) (Tb : List (Addr × Str)) : Sp := fun vs H Q _ => ∃ (a : Addr) (ns : List Int), vs = [.ref a] ∧ SqL K H a (ns.map V.int) ∧ ns.length ≤ 1000 ∧ ∀ H' d l c, Fr Tb [] H H' → H d = none → H l = none → DrawAt H' d l c → Q (.ref d) H'
theorem sc__law_begun : FnScope ["_law_script", "_law_large", "_law_grain"] ["_law_script"] (defScope (top 42)) := ⟨rfl, rfl, rfl, by decide +kernel, rfl, by decide +kernel, by decide +kernel⟩
theorem ok_law_begun (F : Fun K "_law_begun" "_law_begun" (top 42) f fd) (T : Txt mg) : FnOk P w K mg base CX0 1 f fd ["_law_script"] (spBegun K Tb) := by
  refine F.ok sc__law_begun (fun vs H Q E h => ?_) (fun cdv A outer s H vs Q E hr h => ?_)
  · obtain ⟨a, ns, rfl, h⟩ := h
    rfl
  · obtain ⟨a, ns, rfl, h⟩ := h
    refine ⟨_, 
      (pss_cons (ps_setLc (i := 1) (own := [("_law_grain", 2)]) (by rfl) sc__law_begun.nd rfl rfl (sw_true rfl rfl rfl (by decide +kernel)) (piL K (pv 0)) (blkOk_by (by kernel_rfl)) (fun _ _ _ _ _ => (pg_name (i := 2) sc__law_begun.nd rfl (by first | exact Or.inl rfl | exact Or.inr rfl))) (fun _ _ _ _ _ => (pts_one (pt_cmpR op_ge (pe_callB call_abs (by rfl) T.f_abs (by decide +kernel) (pa_cons (pv 2) pa_nil)) (pe_op op_pow pe_int pe_int) (nomark _)))) (fun _ _ _ _ _ => (pe_op op_sub (pe_callB call_abs (by rfl) T.f_abs (by decide +kernel) (pa_cons (pv 2) pa_nil)) (pe_op op_pow pe_int pe_int))))
      (pss_one (ps_ret (pe_disp (pps_cons pe_str (pv 1) (pps_cons pe_str pe_int (pps_cons pe_str (pe_lc (own := [("_law_grain", 2)]) (by rfl) sc__law_begun.nd (piL K (pv 0)) (blkOk_by (by kernel_rfl)) (fun _ _ _ _ _ => (pg_name (i := 2) sc__law_begun.nd rfl (by first | exact Or.inl rfl | exact Or.inr rfl))) (fun _ _ _ _ _ => pts_nil) (fun _ _ _ _ _ => (pe_callB call_abs (by rfl) T.f_abs (by decide +kernel) (pa_cons (pv 2) pa_nil)))) (pps_cons pe_str pe_int pps_nil)))) (by rfl) (by rfl) (fun z => by cases z) (by decide)))))
      , ?_⟩
    obtain ⟨ha, hlen, k⟩ := h
    refine ⟨_, rfl, a, rfl, ⟨_, ha⟩, fun D hD => lc_list (K := K) (a := a) (xs := ns.map V.int) (fun i H' => Fr Tb [] H H' ∧ ∃ ls : List Int, H' D = some (.lst (ls.map V.int)) ∧ ls.length ≤ i) ⟨Fr.new hD, [], upd_same, Nat.le_refl _⟩ (fun i H' _ q => SqL.fr ha q.1) ?_ ?_⟩
    · rintro i x H' hx ⟨f1, ls, hD1, hl⟩
      have hi := (List.getElem?_eq_some_iff.mp hx).1
      rw [List.length_map] at hi
      obtain ⟨g, rfl⟩ : ∃ g, x = V.int g := by
        obtain ⟨g, _, e⟩ := List.mem_map.mp (List.mem_of_getElem? hx)
        exact ⟨g, e.symm⟩
      refine ⟨rfl, _, rfl, _, rfl, 10, 18, rfl, rfl, ⟨by decide, by decide, by decide⟩, _, _, rfl, rfl, _, rfl, ?_⟩
      by_cases hb : (10 : Int) ^ (18 : Int).toNat ≤ if g < 0 then -g else g
      · rw [decide_eq_true hb]
        refine iteT ⟨_, rfl, _, rfl, 10, 18, rfl, rfl, ⟨by decide, by decide, by decide⟩, _, _, rfl, rfl, _, hD1, ?_, f1.lstw (.inl hD) hD1, ls ++ [_], by rw [upd_same, List.map_append]; rfl, by rw [List.length_append, List.length_singleton]; omega⟩
        rw [List.length_map]
        exact Nat.lt_of_le_of_lt (by omega : ls.length ≤ 1000) (by decide)
      · rw [decide_eq_false hb]
        exact iteF ⟨f1, ls, hD1, by omega⟩
    · rintro H1 ⟨f1, ls, hD1, hl⟩
      intro p hp
      have f2 : Fr Tb [] H (upd H1 p (.dK [])) := f1.upd_new hp
      have hD2 : upd H1 p (.dK []) D = some (.lst (ls.map V.int)) := by rw [upd_ne (ne_of_none hD1 hp)]; exact hD1
      have hp2 : upd H1 p (.dK []) p = some (.dK []) := upd_same
      have hp0 := f1.free hp
      generalize upd H1 p (.dK []) = H2 at f2 hD2 hp2
      refine ⟨_, rfl, _, rfl, a, rfl, ⟨_, SqL.fr ha f2⟩, fun C hC => lc_list (K := K) (a := a) (xs := ns.map V.int) (fun i H' => Fr Tb [] H2 H' ∧ ∃ ls : List Int, H' C = some (.lst (ls.map V.int)) ∧ ls.length ≤ i) ⟨Fr.new hC, [], upd_same, Nat.le_refl _⟩ (fun i H' _ q => SqL.fr (SqL.fr ha f2) q.1) ?_ ?_⟩
      · rintro i x H' hx ⟨f3, zs, hC1, hz⟩
        have hi := (List.getElem?_eq_some_iff.mp hx).1
        rw [List.length_map] at hi
        obtain ⟨g, rfl⟩ : ∃ g, x = V.int g := by
          obtain ⟨g, _, e⟩ := List.mem_map.mp (List.mem_of_getElem? hx)
          exact ⟨g, e.symm⟩
        refine ⟨rfl, yes_lc ⟨_, rfl, _, rfl, _, hC1, ?_, f3.lstw (.inl hC) hC1, zs ++ [_], by rw [upd_same, List.map_append]; rfl, by rw [List.length_append, List.length_singleton]; omega⟩⟩
        rw [List.length_map]
        exact Nat.lt_of_le_of_lt (by omega : zs.length ≤ 1000) (by decide)
      · rintro H3 ⟨f3, zs, hC1, hz⟩
        have f03 := f2.trans f3
        have hp3 := f3.ext _ _ hp2 (by simp) fun _ z => by cases z
        have hD3 := f3.lst0 hD2
        have ncD : C ≠ D := (ne_of_none hD2 hC).symm
        refine ⟨hp3, dkv D 0 C 0, rfl, by show 4 ≤ 15; decide, ?_⟩
        refine k _ p D C (f03.dKw (.inl hp0) hp3) hp0 hD ⟨0, 0, ls, zs, upd_same, ?_, ?_, ncD⟩
        · rw [upd_ne (ne_of hD3 hp3 (by intro z; cases z))]
          exact hD3
        · rw [upd_ne (ne_of hC1 hp3 (by intro z; cases z))]
          exact hC1
/-! ### _law_mixed -/
def spMixed (Tb : List (Addr × Str)) : Sp := fun vs H Q _ => ∃ d l c, vs = [.ref d] ∧ DrawAt H d l c ∧ ∀ H' (z : Int), Fr Tb [d] H H' → DrawAt H' d l c → Q (.int z) H'
theorem sc__law_mixed : FnScope ["_law_draw", "_law_turn", "_law_found", "_law_great", "_law_blend", "_law_grain"] ["_law_draw"] (defScope (top 43)) := ⟨rfl, rfl, rfl, by decide +kernel, rfl, by decide +kernel, by decide +kernel⟩
theorem ok_law_mixed (F : Fun K "_law_mixed" "_law_mixed" (top 43) f fd) (T : Txt mg) : FnOk P w K mg base CX0 1 f fd ["_law_draw"] (spMixed Tb) := by
  refine F.ok sc__law_mixed (fun vs H Q E h => ?_) (fun cdv A outer s H vs Q E hr h => ?_)
  · obtain ⟨d, l, c, rfl, h⟩ := h
    rfl
  · obtain ⟨d, l, c, rfl, h⟩ := h
    refine ⟨_, 
      (pss_cons (ps_dput (hu_of hr) (pv 0) pe_str (pe_op op_add (pe_dget (hu_of hr) (pv 0) pe_str (fun _ _ => rfl)) pe_int) rfl)
      (pss_cons (ps_par (i := 1) (j := 2) (by rfl) sc__law_mixed.nd rfl rfl (by decide) rfl rfl (pa_cons (pe_callTy call_int1 (by rfl) T.f_int (by decide +kernel) (pa_cons (pe_dget (hu_of hr) (pv 0) pe_str (fun _ _ => rfl)) pa_nil)) (pa_cons pe_int pa_nil)) (by rfl))
      (pss_cons (ps_for PassesOwn.never rfl (piL K (pe_lst (pa_cons pe_int (pa_cons pe_int (pa_cons pe_int pa_nil))))) (pg_name (i := 3) sc__law_mixed.nd rfl (by first | exact Or.inl rfl | exact Or.inr rfl))
      (pss_cons (ps_set (i := 4) sc__law_mixed.nd rfl (by first | exact Or.inl rfl | exact Or.inr rfl) (pe_op op_mod (pe_op op_add (pe_op op_mul (pv 1) pe_int) (pe_op op_fdiv (pv 3) pe_int)) (pv 3)))
      (pss_cons (ps_for PassesOwn.never rfl (piL K (pe_dget (hu_of hr) (pv 0) pe_str (fun _ _ => rfl))) (pg_name (i := 5) sc__law_mixed.nd rfl (by first | exact Or.inl rfl | exact Or.inr rfl))
      (pss_one (ps_set (i := 4) sc__law_mixed.nd rfl (by first | exact Or.inl rfl | exact Or.inr rfl) (pe_op op_mod (pe_op op_add (pe_op op_mul (pv 4) pe_int) (pe_callTy call_int1 (by rfl) T.f_int (by decide +kernel) (pa_cons (pv 5) pa_nil))) (pv 3)))))
      (pss_one (ps_set (i := 2) sc__law_mixed.nd rfl (by first | exact Or.inl rfl | exact Or.inr rfl) (pe_op op_add (pe_op op_mul (pv 2) pe_int) (pe_op op_mod (pe_op op_pow (pv 4) pe_int) (pv 3))))))))
      (pss_one (ps_ret (pv 2))))))
      , ?_⟩
    obtain ⟨⟨r, t, ls, zs, h1, h2, h3, h4⟩, k⟩ := h
    have hu := hr.units
    refine ⟨_, rfl, d, .int t, rfl, dg_turn h1, _, _, rfl, rfl, _, rfl, d, _, rfl, dp_turn h1, ?_⟩
    have f1 : Fr Tb [d] H (upd H d (.dK (dkv l r c (t + 1)))) := (Fr.refl (T := Tb) (S := [d])).dKw (.inr (by simp)) h1
    have g1 : upd H d (.dK (dkv l r c (t + 1))) d = some (.dK (dkv l r c (t + 1))) := upd_same
    have g2 : upd H d (.dK (dkv l r c (t + 1))) l = some (.lst (ls.map V.int)) := by rw [upd_ne (ne_of h2 h1 (by intro z; cases z))]; exact h2
    have g3 : upd H d (.dK (dkv l r c (t + 1))) c = some (.lst (zs.map V.int)) := by rw [upd_ne (ne_of h3 h1 (by intro z; cases z))]; exact h3
    show tSeq _ _ _ _ (upd H d (.dK (dkv l r c (t + 1))))
    generalize upd H d (.dK (dkv l r c (t + 1))) = H1 at f1 g1 g2 g3
    refine ⟨_, rfl, d, _, rfl, dg_turn g1, .inl ⟨t + 1, rfl, _, _, rfl, ?_⟩⟩
    refine ⟨by show 3 ≤ sizeLine; decide, fun a ha => ?_⟩
    have f2 : Fr Tb [d] H (upd H1 a (.lst [.int 2147483629, .int 2147483587, .int 2147483579])) := f1.upd_new ha
    have ha2 : upd H1 a (.lst [.int 2147483629, .int 2147483587, .int 2147483579]) a = some (.lst [.int 2147483629, .int 2147483587, .int 2147483579]) := upd_same
    have e2 : Fr Tb [] H1 (upd H1 a (.lst [.int 2147483629, .int 2147483587, .int 2147483579])) := Fr.new ha
    have g12 := e2.ext _ _ g1 (by simp) fun _ z => by cases z
    have g22 := e2.lst0 g2
    have g32 := e2.lst0 g3
    generalize upd H1 a (.lst [.int 2147483629, .int 2147483587, .int 2147483579]) = H2 at f2 ha2 g12 g22 g32
    refine ⟨a, rfl, ⟨_, SqL.of ha2⟩, for_list (K := K) (a := a) (xs := [.int 2147483629, .int 2147483587, .int 2147483579]) (fun i σ H' => H' = H2 ∧ ∃ (z : Int) (x y u : Option V), σ = [some (.ref d), some (.int (t + 1)), some (.int z), x, y, u]) ⟨rfl, 0, none, none, none, rfl⟩ (fun i σ H' _ q => by rw [q.1]; exact SqL.of ha2) ?_ ?_⟩
    · rintro i x σ H' hx ⟨rfl, z, x0, y0, u0, rfl⟩
      obtain ⟨g, rfl, hg, hg2⟩ : ∃ g : Int, x = .int g ∧ 0 < g ∧ g < 2 ^ 31 := by
        have hm := List.mem_of_getElem? hx
        simp only [List.mem_cons, List.not_mem_nil, or_false] at hm
        rcases hm with rfl | rfl | rfl
        · exact ⟨_, rfl, by decide, by decide⟩
        · exact ⟨_, rfl, by decide, by decide⟩
        · exact ⟨_, rfl, by decide, by decide⟩
      refine ⟨_, rfl, _, _, rfl, rfl, .inr ⟨by decide, by decide⟩, _, rfl, _, _, rfl, rfl, ⟨by decide, by decide⟩, _, _, rfl, rfl, _, rfl, _, _, rfl, rfl, hg, ?_⟩
      have hb : ∀ q : Int, 0 ≤ q % g ∧ q % g < 2 ^ 31 := fun q => ⟨Int.emod_nonneg _ (by omega), Int.lt_trans (Int.emod_lt_of_pos _ hg) hg2⟩
      refine ⟨_, rfl, d, _, rfl, dg_cells g12, c, rfl, ⟨_, SqL.of g32⟩, for_list (K := K) (a := c) (xs := zs.map V.int) (fun j σ H'' => H'' = H' ∧ ∃ (b : Int) (u : Option V), 0 ≤ b ∧ b < 2 ^ 31 ∧ σ = [some (.ref d), some (.int (t + 1)), some (.int z), some (.int g), some (.int b), u]) ⟨rfl, _, u0, (hb _).1, (hb _).2, rfl⟩ (fun j σ H'' _ q => by rw [q.1]; exact SqL.of g32) ?_ ?_⟩
      · rintro j x σ H'' hx ⟨rfl, b, u, b1, b2, rfl⟩
        obtain ⟨q, rfl⟩ : ∃ q, x = V.int q := by
          obtain ⟨q, _, e⟩ := List.mem_map.mp (List.mem_of_getElem? hx)
          exact ⟨q, e.symm⟩
        exact ⟨_, rfl, _, _, rfl, rfl, .inr ⟨by decide, by decide⟩, _, rfl, .inl ⟨q, rfl, _, _, rfl, rfl, _, rfl, _, _, rfl, rfl, hg, rfl, _, _, (hb _).1, (hb _).2, rfl⟩⟩
      · rintro σ H'' ⟨rfl, b, u, b1, b2, rfl⟩
        exact ⟨_, rfl, _, _, rfl, rfl, .inr ⟨by decide, by decide⟩, _, rfl, _, _, rfl, rfl, ⟨by decide, by decide, by omega⟩, _, rfl, _, _, rfl, rfl, hg, _, _, rfl, rfl, rfl, _, _, _, _, rfl⟩
    · rintro σ H' ⟨rfl, z, x0, y0, u0, rfl⟩
      exact ⟨_, rfl, k _ z f2 ⟨r, t + 1, ls, zs, g12, g22, g32, h4⟩⟩
/-! ### _law_take -/
theorem dpI {K : PySem.W.Frag} {H : Hp} : ∀ l : List Int, DpAll K H (l.map V.int) (l.map PyData.int)
  | [] => .nil
  | n :: l => .cons (.int _) (dpI l)
def spTake (Tb : List (Addr × Str)) : Sp := fun vs H Q _ => ∃ d l c n, vs = [.ref d, .int n] ∧ DrawAt H d l c ∧ 0 < n ∧ n < 2 ^ 64 ∧ ∀ H' (v : Nat), Fr Tb [d, l] H H' → DrawAt H' d l c → (v : Int) < n → Q (nI v) H'
theorem sc__law_take : FnScope ["_law_draw", "_law_amount", "_law_found"] ["_law_draw", "_law_amount"] (defScope (top 44)) := ⟨rfl, rfl, rfl, by decide +kernel, rfl, by decide +kernel, by decide +kernel⟩
theorem ok_law_take (F : Fun K "_law_take" "_law_take" (top 44) f fd) (T : Txt mg) (C__law_mixed : Cl P w K mg base CX0 1 "_law_mixed" (spMixed Tb)) : FnOk P w K mg base CX0 2 f fd ["_law_draw", "_law_amount"] (spTake Tb) := by
  refine F.ok sc__law_take (fun vs H Q E h => ?_) (fun cdv A outer s H vs Q E hr h => ?_)
  · obtain ⟨d, l, c, n, rfl, h⟩ := h
    rfl
  · obtain ⟨d, l, c, n, rfl, h⟩ := h
    refine ⟨_, 
      (pss_cons (ps_if (pt_cmpR op_eq (pe_dget (hu_of hr) (pv 0) pe_str (fun _ _ => rfl)) pe_int (nomark _))
      (pss_one (ps_dput (hu_of hr) (pv 0) pe_str (pe_ifExp (pt_cmpR (opNe K hr.units) (pe_dget (hu_of hr) (pv 0) pe_str (fun _ _ => rfl)) (pe_lst pa_nil) (nomark _)) (peBm K PySem.F.plainAttrs_list PySem.F.slot_list_pop PySem.F.type_list_pop mt_popAt (pe_dget (hu_of hr) (pv 0) pe_str (fun _ _ => rfl)) (pa_cons pe_int pa_nil)) (cl0 C__law_mixed hr (by decide) (by rfl) (pa_cons (pv 0) pa_nil))) rfl)) pss_nil)
      (pss_cons (ps_set (i := 2) sc__law_take.nd rfl (by first | exact Or.inl rfl | exact Or.inr rfl) (pe_op op_mod (pe_callTy call_int1 (by rfl) T.f_int (by decide +kernel) (pa_cons (pe_dget (hu_of hr) (pv 0) pe_str (fun _ _ => rfl)) pa_nil)) (pv 1)))
      (pss_cons (ps_dput (hu_of hr) (pv 0) pe_str (pe_op op_fdivW (pe_callTy call_int1 (by rfl) T.f_int (by decide +kernel) (pa_cons (pe_dget (hu_of hr) (pv 0) pe_str (fun _ _ => rfl)) pa_nil)) (pv 1)) rfl)
      (pss_one (ps_ret (pv 2))))))
      , ?_⟩
    obtain ⟨⟨r, t, ls, zs, h1, h2, h3, h4⟩, hn, hn2, k⟩ := h
    have hlog : n.natAbs.log2 < 9000 := by
      have z : n.natAbs < 2 ^ 64 := by omega
      have z2 : n.natAbs.log2 < 64 := (Nat.log2_lt (by omega)).mpr z
      omega
    have ndl : d ≠ l := ne_of h1 h2 (by intro z; cases z)
    -- behind the first row: the rest is some number
    have go : ∀ H1 (r : Int) (t : Int) (ls zs : List Int), Fr Tb [d, l] H H1 → H1 d = some (.dK (dkv l r c t)) → H1 l = some (.lst (ls.map V.int)) → H1 c = some (.lst (zs.map V.int)) →
        tSeq
          (tAsg
            (tOp (rI (fun x j => 0 < j) fun i j => V.int (i % j))
              (tCB (fun xs H Q => (∃ i, xs = [V.int i] ∧ Q (V.int i) H) ∨ ∃ k, xs = [V.bl k] ∧ Q (V.int (if k = true then 1 else 0)) H) (tCons (tDGet (tVar 0) (tC (V.str (Str.ofString "rest")))) tNil))
              (tVar 1))
            (gName 2))
          (tSeq
            (sDPut (tVar 0) (tC (V.str (Str.ofString "rest")))
              (tOp (rI CDivW fun i j => V.int (i / j))
                (tCB (fun xs H Q => (∃ i, xs = [V.int i] ∧ Q (V.int i) H) ∨ ∃ k, xs = [V.bl k] ∧ Q (V.int (if k = true then 1 else 0)) H) (tCons (tDGet (tVar 0) (tC (V.str (Str.ofString "rest")))) tNil))
                (tVar 1)))
            (tRet (tVar 2)))
          { nx := fun x H' => Q V.non H', rt := Q } [some (.ref d), some (.int n), none] H1 := by
      intro H1 r t ls zs f1 g1 g2 g3
      refine ⟨_, rfl, d, _, rfl, dg_rest g1, .inl ⟨r, rfl, _, rfl, _, _, rfl, rfl, hn, ?_⟩⟩
      refine ⟨_, rfl, d, _, rfl, dg_rest g1, .inl ⟨r, rfl, _, rfl, _, _, rfl, rfl, ⟨hn, hlog⟩, _, rfl, d, _, rfl, dp_rest g1, _, rfl, ?_⟩⟩
      have hz := Int.emod_nonneg r (show n ≠ 0 by omega)
      have hz2 := Int.emod_lt_of_pos r hn
      have e : V.int (r % n) = nI (r % n).toNat := by show V.int _ = V.int _; congr 1; omega
      show Q (V.int (r % n)) _
      rw [e]
      refine k _ _ (f1.dKw (.inr (by simp)) g1) ⟨r / n, t, ls, zs, upd_same, ?_, ?_, h4⟩ (by omega)
      · rw [upd_ne (ne_of g2 g1 (by intro z; cases z))]; exact g2
      · rw [upd_ne (ne_of g3 g1 (by intro z; cases z))]; exact g3
    refine ⟨_, rfl, d, _, rfl, dg_rest h1, rfl, _, rfl, ?_⟩
    by_cases hr0 : V.int r = V.int 0
    · rw [decide_eq_true hr0]
      refine iteT ⟨_, rfl, d, _, rfl, dg_large h1, Nat.zero_le _, fun b hb => ?_⟩
      have e1 : Fr Tb [] H (upd H b (.lst [])) := Fr.new hb
      have h11 := e1.ext _ _ h1 (by simp) fun _ z => by cases z
      have h21 := e1.lst0 h2
      have h31 := e1.lst0 h3
      have hb1 : upd H b (.lst []) b = some (.lst []) := upd_same
      generalize upd H b (.lst []) = H1 at e1 h11 h21 h31 hb1
      refine ⟨.list (ls.map PyData.int), .list [], .lst (SqL.of h21) (dpI ls), .lst (SqL.of hb1) .nil, PySem.W.ke_shaped_ints _, shapedL [], ?_⟩
      cases ls with
      | nil =>
        have e : PyData.eqv (.list (([] : List Int).map PyData.int)) (.list []) = true := by simp [PyData.eqv, PyData.eqvAll]
        rw [e]
        refine ⟨_, rfl, iteF ⟨_, rfl, d, l, c, rfl, ⟨r, t, [], zs, h11, h21, h31, h4⟩, fun H2 z f2 hd2 => ?_⟩⟩
        obtain ⟨r2, t2, ls2, zs2, k1, k2, k3, k4⟩ := hd2
        have f02 : Fr Tb [d, l] H H2 := ⟨fun b o e n1 n2 => f2.ext b o (e1.ext b o e (by simp) n2) (fun z => n1 (by simp at z; simp [z])) n2, fun t => f2.tabs (e1.tabs t), fun b e => f2.old b (e1.old b e)⟩
        refine ⟨_, rfl, _, _, rfl, dp_rest k1, go _ z t2 ls2 zs2 (f02.dKw (.inr (by simp)) k1) upd_same ?_ ?_⟩
        · rw [upd_ne (ne_of k2 k1 (by intro z; cases z))]; exact k2
        · rw [upd_ne (ne_of k3 k1 (by intro z; cases z))]; exact k3
      | cons x ls =>
        have e : PyData.eqv (.list ((x :: ls).map PyData.int)) (.list []) = false := by simp [PyData.eqv, PyData.eqvAll]
        rw [e]
        refine ⟨_, rfl, iteT ⟨_, rfl, d, _, rfl, dg_large h11, .inl ⟨rfl, _, SqL.of h21⟩, l, _, 0, 0, .int x, rfl, rfl, h21, by decide, by decide, by simp [seqIndex?], rfl, ?_⟩⟩
        have e2 : Fr Tb [d, l] H1 (upd H1 l (.lst ((((x :: ls).map V.int)).eraseIdx 0))) := (Fr.refl (T := Tb) (S := [d, l])).lstw (.inr (by simp)) h21
        have h12 : upd H1 l (.lst ((((x :: ls).map V.int)).eraseIdx 0)) d = some (.dK (dkv l r c t)) := by rw [upd_ne ndl]; exact h11
        have h22 : upd H1 l (.lst ((((x :: ls).map V.int)).eraseIdx 0)) l = some (.lst (ls.map V.int)) := by rw [upd_same]; rfl
        have h32 : upd H1 l (.lst ((((x :: ls).map V.int)).eraseIdx 0)) c = some (.lst (zs.map V.int)) := by rw [upd_ne h4]; exact h31
        generalize upd H1 l (.lst ((((x :: ls).map V.int)).eraseIdx 0)) = H2 at e2 h12 h22 h32
        have f02 : Fr Tb [d, l] H H2 := (e1.mono).trans e2
        refine ⟨_, rfl, _, _, rfl, dp_rest h12, go _ x t ls zs (f02.dKw (.inr (by simp)) h12) upd_same ?_ ?_⟩
        · rw [upd_ne (ne_of h22 h12 (by intro z; cases z))]; exact h22
        · rw [upd_ne (ne_of h32 h12 (by intro z; cases z))]; exact h32
    · rw [decide_eq_false hr0]
      exact iteF (go H r t ls zs .refl h1 h2 h3)
/-! ### _law_pick -/
def spPick (Tb : List (Addr × Str)) : Sp := fun vs H Q _ => ∃ d l c a xs, vs = [.ref d, .ref a] ∧ DrawAt H d l c ∧ H a = some (.lst xs) ∧ a ≠ l ∧ 0 < xs.length ∧ xs.length ≤ 100000 ∧ ∀ H' v, Fr Tb [d, l] H H' → DrawAt H' d l c → v ∈ xs → Q v H'
theorem sc__law_pick : FnScope ["_law_draw", "_law_some"] ["_law_draw", "_law_some"] (defScope (top 45)) := ⟨rfl, rfl, rfl, by decide +kernel, rfl, by decide +kernel, by decide +kernel⟩
theorem ok_law_pick (F : Fun K "_law_pick" "_law_pick" (top 45) f fd) (T : Txt mg) (C__law_take : Cl P w K mg base CX0 2 "_law_take" (spTake Tb)) : FnOk P w K mg base CX0 3 f fd ["_law_draw", "_law_some"] (spPick Tb) := by
  refine F.ok sc__law_pick (fun vs H Q E h => ?_) (fun cdv A outer s H vs Q E hr h => ?_)
  · obtain ⟨d, l, c, a, xs, rfl, h⟩ := h
    rfl
  · obtain ⟨d, l, c, a, xs, rfl, h⟩ := h
    refine ⟨_, 
      (pss_one (ps_ret (pe_ix (ixL K) (pv 1) (cl0 C__law_take hr (by decide) (by rfl) (pa_cons (pv 0) (pa_cons (pe_callB (crLen K) (by rfl) T.f_len PySem.boot_len (pa_cons (pv 1) pa_nil)) pa_nil))) (fun _ _ => rfl))))
      , ?_⟩
    obtain ⟨hd, ha, hal, hpos, hlen, k⟩ := h
    have had : a ≠ d := by
      obtain ⟨r, t, ls, zs, h1, _⟩ := hd
      exact ne_of ha h1 (by intro z; cases z)
    refine ⟨_, rfl, _, rfl, _, rfl, a, _, rfl, .inl (SqL.of ha), d, l, c, (xs.length : Int), rfl, hd, by omega, by omega, fun H' v f1 hd1 hv => ?_⟩
    have ha1 : H' a = some (.lst xs) := f1.lst ha (by simp [hal, had])
    have hv' : v < xs.length := by omega
    exact ⟨a, xs, v, xs[v], rfl, rfl, SqL.of ha1, atI_nat (List.getElem?_eq_getElem hv'), k H' _ f1 hd1 (List.getElem_mem hv')⟩
/-! ### _law_shuffled -/
def spShuffled (Tb : List (Addr × Str)) : Sp := fun vs H Q _ => ∃ d l c a xs, vs = [.ref d, .ref a] ∧ DrawAt H d l c ∧ H a = some (.lst (nIs xs)) ∧ a ≠ l ∧ xs.length ≤ 1000 ∧ ∀ H' p ys, Fr Tb [d, l] H H' → DrawAt H' d l c → H p = none → H' p = some (.lst (nIs ys)) → ys.Perm xs → Q (.ref p) H'
theorem sc__law_shuffled : FnScope ["_law_draw", "_law_some", "_law_left", "_law_found"] ["_law_draw", "_law_some"] (defScope (top 46)) := ⟨rfl, rfl, rfl, by decide +kernel, rfl, by decide +kernel, by decide +kernel⟩
theorem ok_law_shuffled (F : Fun K "_law_shuffled" "_law_shuffled" (top 46) f fd) (T : Txt mg) (C__law_take : Cl P w K mg base CX0 2 "_law_take" (spTake Tb)) : FnOk P w K mg base CX0 3 f fd ["_law_draw", "_law_some"] (spShuffled Tb) := by
  refine F.ok sc__law_shuffled (fun vs H Q E h => ?_) (fun cdv A outer s H vs Q E hr h => ?_)
  · obtain ⟨d, l, c, a, xs, rfl, h⟩ := h
    rfl
  · obtain ⟨d, l, c, a, xs, rfl, h⟩ := h
    refine ⟨_, 
      (pss_cons (ps_par (i := 2) (j := 3) (by rfl) sc__law_shuffled.nd rfl rfl (by decide) rfl rfl (pa_cons (pe_callTy (crListOf K) (by rfl) T.f_list (by decide +kernel) (pa_cons (pv 1) pa_nil)) (pa_cons (pe_lst pa_nil) pa_nil)) (by rfl))
      (pss_cons (ps_while PassesOwn.never (pt_cmpR (opNe K hr.units) (pv 2) (pe_lst pa_nil) (nomark _))
      (pss_one (ps_expr (peBm K PySem.F.plainAttrs_list PySem.F.slot_list_append PySem.F.type_list_append mt_append (pv 3) (pa_cons (peBm K PySem.F.plainAttrs_list PySem.F.slot_list_pop PySem.F.type_list_pop mt_popAt (pv 2) (pa_cons (cl0 C__law_take hr (by decide) (by rfl) (pa_cons (pv 0) (pa_cons (pe_callB (crLen K) (by rfl) T.f_len PySem.boot_len (pa_cons (pv 2) pa_nil)) pa_nil))) pa_nil)) pa_nil)))))
      (pss_one (ps_ret (pv 3)))))
      , ?_⟩
    obtain ⟨hd, ha, hal, hlen, k⟩ := h
    refine ⟨_, rfl, a, _, rfl, .inl (SqL.of ha), fun lp hlp => ⟨Nat.zero_le _, fun fp hfp => ⟨_, _, rfl, ?_⟩⟩⟩
    have nlf : lp ≠ fp := fun z => by rw [← z, upd_same] at hfp; cases hfp
    have hfp0 : H fp = none := by rw [upd_ne nlf.symm] at hfp; exact hfp
    have f0 : Fr Tb [] H (upd (upd H lp (.lst (nIs xs))) fp (.lst [])) := (Fr.new hlp).upd_new hfp
    have hd0 := hd.fr (S := []) f0
    have hl0 : upd (upd H lp (.lst (nIs xs))) fp (.lst []) lp = some (.lst (nIs xs)) := by rw [upd_ne nlf, upd_same]
    have hf0 : upd (upd H lp (.lst (nIs xs))) fp (.lst []) fp = some (.lst (nIs [])) := upd_same
    have nl : lp ≠ l ∧ lp ≠ d ∧ lp ≠ c := hd.new hlp
    have nf : fp ≠ l ∧ fp ≠ d ∧ fp ≠ c := hd.new hfp0
    show tSeq _ _ _ _ (upd (upd H lp (.lst (nIs xs))) fp (.lst []))
    generalize upd (upd H lp (.lst (nIs xs))) fp (.lst []) = H1 at f0 hd0 hl0 hf0
    refine ⟨fun m σ H' => σ = [some (.ref d), some (.ref a), some (.ref lp), some (.ref fp)] ∧ Fr Tb [d, l] H H' ∧ DrawAt H' d l c ∧ ∃ ys ws, H' lp = some (.lst (nIs ys)) ∧ H' fp = some (.lst (nIs ws)) ∧ (ws ++ ys).Perm xs ∧ ys.length = m, ⟨xs.length, rfl, f0.mono, hd0, xs, [], hl0, hf0, List.Perm.refl _, rfl⟩, ?_⟩
    rintro m σ H' ⟨rfl, f1, hd1, ys, ws, hl1, hf1, hp, hm⟩
    refine ⟨_, rfl, Nat.zero_le _, fun b hb => ?_⟩
    have e2 : Fr Tb [] H' (upd H' b (.lst [])) := Fr.new hb
    refine ne_nil_read (e2.lst0 hl1) upd_same ⟨_, rfl, ?_⟩
    have hd2 := hd1.fr (S := []) e2
    have hl2 := e2.lst0 hl1
    have hf2 := e2.lst0 hf1
    have f2 : Fr Tb [d, l] H (upd H' b (.lst [])) := f1.upd_new hb
    generalize upd H' b (.lst []) = H2 at f2 hd2 hl2 hf2
    have hpl := hp.length_eq
    rw [List.length_append] at hpl
    cases ys with
    | nil =>
      refine iteF ⟨_, rfl, k H2 fp ws f2 hd2 hfp0 hf2 ?_⟩
      rw [List.append_nil] at hp
      exact hp
    | cons y ys =>
      refine iteT ⟨fun σ' H' => σ' = [some (.ref d), some (.ref a), some (.ref lp), some (.ref fp)] ∧ Fr Tb [d, l] H H' ∧ DrawAt H' d l c ∧ ∃ zs ws, H' lp = some (.lst (nIs zs)) ∧ H' fp = some (.lst (nIs ws)) ∧ (ws ++ zs).Perm xs ∧ zs.length = ys.length, fun σ' H' h => ⟨ys.length, by rw [← hm, List.length_cons]; exact Nat.lt_succ_self _, h⟩, ?_⟩
      refine ⟨_, rfl, .inl ⟨rfl, _, SqL.of hf2⟩, _, rfl, .inl ⟨rfl, _, SqL.of hl2⟩, _, rfl, _, rfl, lp, _, rfl, .inl (SqL.of hl2), d, l, c, _, rfl, hd2, ?_, ?_, fun H3 v f3 hd3 hv => ?_⟩
      · rw [List.length_map, List.length_cons]; omega
      · rw [List.length_map]
        simp only [List.length_cons] at hpl ⊢
        omega
      rw [List.length_map] at hv
      have hv' : v < (y :: ys).length := by omega
      have hl3 := f3.lst hl2 (by simp [nl.1, nl.2.1])
      have hf3 := f3.lst hf2 (by simp [nf.1, nf.2.1])
      have f03 : Fr Tb [d, l] H H3 := f2.trans f3
      refine ⟨lp, _, (v : Int), v, nI ((y :: ys)[v]), rfl, rfl, hl3, by omega, ?_, ?_, ?_, ?_⟩
      · simp only [List.length_cons] at hpl hv'
        omega
      · rw [List.length_map]
        exact seqIx_nat hv'
      · rw [List.getElem?_map, List.getElem?_eq_getElem hv']
        rfl
      have f4 : Fr Tb [d, l] H (upd H3 lp (.lst ((nIs (y :: ys)).eraseIdx v))) := f03.lstw (.inl hlp) hl3
      have hl4 : upd H3 lp (.lst ((nIs (y :: ys)).eraseIdx v)) lp = some (.lst (nIs ((y :: ys).eraseIdx v))) := by rw [upd_same, erase_nIs]
      have hf4 : upd H3 lp (.lst ((nIs (y :: ys)).eraseIdx v)) fp = some (.lst (nIs ws)) := by rw [upd_ne nlf.symm]; exact hf3
      have hd4 : DrawAt (upd H3 lp (.lst ((nIs (y :: ys)).eraseIdx v))) d l c := hd3.put nl
      generalize upd H3 lp (.lst ((nIs (y :: ys)).eraseIdx v)) = H4 at f4 hl4 hf4 hd4
      refine ⟨fp, _, _, rfl, rfl, hf4, ?_, rfl, f4.lstw (.inl hfp0) hf4, hd4.put nf, (y :: ys).eraseIdx v, ws ++ [(y :: ys)[v]], by rw [upd_ne nlf]; exact hl4, by rw [upd_same]; simp [nIs], ?_, ?_⟩
      · rw [List.length_map]
        exact Nat.lt_of_le_of_lt (by omega : ws.length ≤ 1000) (by decide)
      · refine List.Perm.trans ?_ hp
        rw [List.append_assoc]
        refine List.Perm.append_left _ ?_
        exact erase_perm _ v hv'
      · rw [List.length_eraseIdx, if_pos hv', List.length_cons]
        rfl
end
end K81
set_option maxHeartbeats 2000000
namespace K81
open PySem PySem.Spec PyProof.Rows L2 LamX K81M StX RZ
theorem lcSq {K : PySem.W.Frag} {T : List (Addr × Str)} {a : Addr} {xs : List V} {j : Nat} {g : TG} {tt : TT} {te : TE} {vs : List Nat} {σ : L2.St} {H : Hp} {Q : VK} (ha : SqAt H a xs) (hσ : σ[j]? = some (some (.ref a))) (Pv : Addr → Nat → Hp → Prop)
    (h0 : ∀ D, H D = none → Pv D 0 (upd H D (.lst []))) (hl : ∀ D i H', H D = none → i ≤ xs.length → Pv D i H' → Fr T [] H H')
    (hs : ∀ D i x H', H D = none → xs[i]? = some x → Pv D i H' → g x (wipe σ vs) H' fun σ2 H2 => wipe σ2 vs = wipe σ vs ∧ tt σ2 H2 fun b H3 => if b = true then te σ2 H3 fun y H4 => ∃ acc, H4 D = some (.lst acc) ∧ acc.length < sizeLine ∧ Pv D (i + 1) (upd H4 D (.lst (acc ++ [y]))) else Pv D (i + 1) H3)
    (hd : ∀ D H', H D = none → Pv D xs.length H' → Q (.ref D) H') : tLc (iSq K (tVar j)) g tt te vs σ H Q := by
  rcases ha with h | h
  · exact .inl ⟨_, hσ, a, rfl, ⟨_, SqL.of h⟩, fun D hD => lc_list (K := K) (Pv D) (h0 D hD) (fun i H' hi p => SqL.of ((hl D i H' hD hi p).lst0 h)) (fun i x H' hx p => hs D i x H' hD hx p) (fun H' p => hd D H' hD p)⟩
  · have h' : ∀ H', Fr T [] H H' → SqT K H' a xs := fun H' f => by
      rcases h with h | h
      · exact SqT.of (f.tup0 h)
      · exact (f.fz0 h).sq
    exact .inr ⟨_, hσ, a, rfl, ⟨_, h' _ .refl⟩, fun D hD => lc_tup (K := K) (Pv D) (h0 D hD) (fun i H' hi p => h' _ (hl D i H' hD hi p)) (fun i x H' hx p => hs D i x H' hD hx p) (fun H' p => hd D H' hD p)⟩
section
variable {P : Program} {w : World} {K : PySem.W.Frag} {mg : Str → Option Value} {base : Heap} {Tb : List (Addr × Str)} {f : Addr} {fd : FuncData}
/-! ### _law_names -/
def spLNames (Tb : List (Addr × Str)) : Sp := fun vs H Q _ => ∃ a l, vs = [.ref a] ∧ H a = some (.lst (nIs l)) ∧ l.length ≤ 100000 ∧ (∀ t ∈ l, t < 4) ∧ ∀ H' p vs, Fr Tb [] H H' → H p = none → H' p = some (.lst vs) → Refs NmAt H' vs (names l) → Q (.ref p) H'
theorem sc__law_names : FnScope ["_law_weaving_here", "_law_counts_here", "_law_found", "_law_thread_here"] ["_law_weaving_here"] (defScope (top 48)) := ⟨rfl, rfl, rfl, by decide +kernel, rfl, by decide +kernel, by decide +kernel⟩
theorem ok_law_names (F : Fun K "_law_names" "_law_names" (top 48) f fd) (T : Txt mg) : FnOk P w K mg base CX0 1 f fd ["_law_weaving_here"] (spLNames Tb) := by
  refine F.ok sc__law_names (fun vs H Q E h => ?_) (fun cdv A outer s H vs Q E hr h => ?_)
  · obtain ⟨a, l, rfl, _⟩ := h
    rfl
  · obtain ⟨a, l, rfl, h⟩ := h
    refine ⟨_, 
      (pss_cons (ps_par (i := 1) (j := 2) (by rfl) sc__law_names.nd rfl rfl (by decide) rfl rfl (pa_cons (pe_lst (pa_cons pe_int (pa_cons pe_int (pa_cons pe_int (pa_cons pe_int pa_nil))))) (pa_cons (pe_lst pa_nil) pa_nil)) (by rfl))
      (pss_cons (ps_for PassesOwn.never rfl (piL K (pv 0)) (pg_name (i := 3) sc__law_names.nd rfl (by first | exact Or.inl rfl | exact Or.inr rfl))
      (pss_cons (ps_expr (peBm K PySem.F.plainAttrs_list PySem.F.slot_list_append PySem.F.type_list_append mt_append (pv 2) (pa_cons (pe_tup (pa_cons (pv 3) (pa_cons (pe_ix (ixL K) (pv 1) (pv 3) (fun _ _ => rfl)) pa_nil))) pa_nil)))
      (pss_one (ps_asg (pe_op op_add (pe_ix (ixL K) (pv 1) (pv 3) (fun _ _ => rfl)) pe_int) (pg_sub (pv 1) (pv 3) set_list)))))
      (pss_one (ps_ret (pv 2)))))
      , ?_⟩
    obtain ⟨ha, hlen, h4, k⟩ := h
    refine ⟨by show 4 ≤ sizeLine; decide, fun cp hcp => ⟨Nat.zero_le _, fun fp hfp => ⟨_, _, rfl, ?_⟩⟩⟩
    have f0 : Fr Tb [] H (upd (upd H cp (.lst (nIs zero4))) fp (.lst [])) := (Fr.new hcp).upd_new hfp
    have ncf : cp ≠ fp := fun z => by rw [← z, upd_same] at hfp; cases hfp
    have p0 : H fp = none := ((Fr.new (T := Tb) (S := []) hcp)).free hfp
    have hc1 : upd (upd H cp (.lst (nIs zero4))) fp (.lst []) cp = some (.lst (nIs zero4)) := by rw [upd_ne ncf, upd_same]
    have hf1 : upd (upd H cp (.lst (nIs zero4))) fp (.lst []) fp = some (.lst []) := upd_same
    show tSeq _ _ _ _ (upd (upd H cp (.lst (nIs zero4))) fp (.lst []))
    generalize upd (upd H cp (.lst (nIs zero4))) fp (.lst []) = H1 at f0 hc1 hf1
    refine ⟨_, rfl, a, rfl, ⟨_, SqL.of (f0.lst0 ha)⟩, for_list (K := K) (a := a) (xs := nIs l) (fun i σ H' => ∃ d vs x, σ = [some (.ref a), some (.ref cp), some (.ref fp), x] ∧ Fr Tb [] H H' ∧ H' cp = some (.lst (nIs d)) ∧ d.length = 4 ∧ H' fp = some (.lst vs) ∧ Refs NmAt H' vs ((names l).take i) ∧ (names l).drop i = namesF d (l.drop i)) ?_ (fun i σ' H' _ ⟨_, _, _, _, f, _⟩ => SqL.of (f.lst0 ha)) ?_ ?_⟩
    · exact ⟨zero4, [], none, rfl, f0, hc1, rfl, hf1, .nil, rfl⟩
    · rintro i x σ H' hx ⟨d, vs, x0, rfl, f1, hc2, hd4, hf2, hR, hnm⟩
      obtain ⟨t, ht, rfl⟩ := nIs_at hx
      have t4 := h4 t (List.mem_of_getElem? ht)
      have hi := (List.getElem?_eq_some_iff.mp ht).1
      have hdrop : l.drop i = t :: l.drop (i + 1) := by
        rw [List.drop_eq_getElem_cons hi]
        congr 1
        have := ht
        rw [List.getElem?_eq_getElem hi] at this
        exact Option.some.inj this
      rw [hdrop] at hnm
      have hnm : (names l).drop i = (t, at0 d t) :: namesF (bump d t) (l.drop (i + 1)) := hnm
      have hni : (names l)[i]? = some (t, at0 d t) := by
        have z := congrArg (fun z => z[0]?) hnm
        simpa using z
      have vlen : vs.length = i := by
        rw [Paired.length hR, List.length_take]
        have z : (names l).length = l.length := namesF_length
        omega
      refine ⟨_, rfl, .inl ⟨rfl, vs, SqL.of hf2⟩, _, rfl, _, rfl, _, rfl, cp, _, _, _, rfl, rfl, SqL.of hc2, atI_nIs (by omega), (by show 2 ≤ sizeLine; decide), fun tp htp => ?_⟩
      have f2 : Fr Tb [] H (upd H' tp (.tup [nI t, nI (at0 d t)])) := f1.upd_new htp
      have ntf : fp ≠ tp := ne_of_none hf2 htp
      have hf3 : upd H' tp (.tup [nI t, nI (at0 d t)]) fp = some (.lst vs) := by rw [upd_ne ntf]; exact hf2
      have hc3 : upd H' tp (.tup [nI t, nI (at0 d t)]) cp = some (.lst (nIs d)) := by rw [upd_ne (ne_of_none hc2 htp)]; exact hc2
      have ht3 : NmAt (upd H' tp (.tup [nI t, nI (at0 d t)])) tp (t, at0 d t) := upd_same
      have hR3 : Refs NmAt (upd H' tp (.tup [nI t, nI (at0 d t)])) vs ((names l).take i) := hR.fr fun a x q => q.fr (Fr.new (T := Tb) htp)
      generalize upd H' tp (.tup [nI t, nI (at0 d t)]) = H3 at f2 hf3 hc3 ht3 hR3
      refine ⟨fp, vs, _, rfl, rfl, hf3, (by rw [vlen]; exact Nat.lt_of_lt_of_le (by omega : i < 100000) (by decide)), ?_⟩
      have keepN : ∀ b (n : Nm), NmAt H3 b n → NmAt (upd H3 fp (.lst (vs ++ [.ref tp]))) b n := fun b n z => by
        unfold NmAt at z ⊢
        rw [upd_ne (ne_of z hf3 (by intro y; cases y))]
        exact z
      have f4 : Fr Tb [] H (upd H3 fp (.lst (vs ++ [.ref tp]))) := f2.lstw (.inl p0) hf3
      have hc4 : upd H3 fp (.lst (vs ++ [.ref tp])) cp = some (.lst (nIs d)) := by rw [upd_ne ncf]; exact hc3
      have hf4 : upd H3 fp (.lst (vs ++ [.ref tp])) fp = some (.lst (vs ++ [.ref tp])) := upd_same
      have hR4 : Refs NmAt (upd H3 fp (.lst (vs ++ [.ref tp]))) (vs ++ [.ref tp]) ((names l).take (i + 1)) := by
        rw [take_snoc hni]
        exact Paired.snoc ⟨tp, rfl, keepN _ _ ht3⟩ (hR3.fr keepN)
      generalize upd H3 fp (.lst (vs ++ [.ref tp])) = H4 at f4 hc4 hf4 hR4
      refine ⟨_, rfl, _, rfl, cp, _, _, _, rfl, rfl, SqL.of hc4, atI_nIs (by omega), _, _, rfl, rfl, _, rfl, _, rfl, cp, _, t, t, rfl, rfl, hc4, ?_, ?_⟩
      · rw [List.length_map, hd4]
        unfold ixN
        rw [if_pos (by omega), if_pos (by omega)]
        rfl
      have e5 : (nIs d).set t (V.int ((at0 d t : Int) + 1)) = nIs (bump d t) := by
        rw [show V.int ((at0 d t : Int) + 1) = nI (at0 d t + 1) by simp [nI], nIs_set]
        rfl
      rw [e5]
      refine ⟨bump d t, vs ++ [.ref tp], some (nI t), rfl, f4.lstw (.inl hcp) hc4, upd_same, by rw [bump_length]; exact hd4, by rw [upd_ne ncf.symm]; exact hf4, hR4.fr fun b n z => ?_, ?_⟩
      · unfold NmAt at z ⊢
        rw [upd_ne (ne_of z hc4 (by intro y; cases y))]
        exact z
      · have z := congrArg List.tail hnm
        rw [List.tail_drop] at z
        exact z
    · rintro σ H' ⟨d, vs, x0, rfl, f1, hc2, hd4, hf2, hR, hnm⟩
      refine ⟨_, rfl, k H' fp vs f1 p0 hf2 ?_⟩
      rw [show (nIs l).length = (names l).length by rw [List.length_map]; exact namesF_length.symm, List.take_length] at hR
      exact hR
/-! ### _law_counts -/
def spLCounts (Tb : List (Addr × Str)) : Sp := fun vs H Q _ => ∃ a l, vs = [.ref a] ∧ SqAt H a (nIs l) ∧ l.length ≤ 100000 ∧ ∀ H' p, Fr Tb [] H H' → H p = none → H' p = some (.tup (nIs (countsOf l))) → Q (.ref p) H'
theorem sc__law_counts : FnScope ["_law_weaving_here", "_law_item", "_law_thread_here"] ["_law_weaving_here"] (defScope (top 49)) := ⟨rfl, rfl, rfl, by decide +kernel, rfl, by decide +kernel, by decide +kernel⟩
theorem count_snoc {l : List Nat} {i x t : Nat} (h : l[i]? = some x) : (l.take (i + 1)).count t = (l.take i).count t + if x = t then 1 else 0 := by
  rw [take_snoc h, List.count_append, List.count_singleton]
  by_cases e : x = t
  · simp [e]
  · simp [e]
theorem ok_law_counts (F : Fun K "_law_counts" "_law_counts" (top 49) f fd) (T : Txt mg) : FnOk P w K mg base CX0 1 f fd ["_law_weaving_here"] (spLCounts Tb) := by
  refine F.ok sc__law_counts (fun vs H Q E h => ?_) (fun cdv A outer s H vs Q E hr h => ?_)
  · obtain ⟨a, l, rfl, _⟩ := h
    rfl
  · obtain ⟨a, l, rfl, h⟩ := h
    refine ⟨_, 
      (pss_one (ps_ret (pe_callTy (crTupOf K) (by rfl) T.f_tuple (by decide +kernel) (pa_cons (pe_lc (own := [("_law_thread_here", 2)]) (by rfl) sc__law_counts.nd (pi_range1 (by rfl) T.f_range (pa_cons pe_int pa_nil)) (blkOk_by (by kernel_rfl)) (fun _ _ _ _ _ => (pg_name (i := 2) sc__law_counts.nd rfl (by first | exact Or.inl rfl | exact Or.inr rfl))) (fun _ _ _ _ _ => pts_nil) (fun _ _ _ _ _ => (pe_callB (crLen K) (by rfl) T.f_len PySem.boot_len (pa_cons (pe_lc (own := [("_law_item", 1)]) (by rfl) sc__law_counts.nd (piSq K (pv 0)) (blkOk_by (by kernel_rfl)) (fun _ _ _ _ _ => (pg_name (i := 1) sc__law_counts.nd rfl (by first | exact Or.inl rfl | exact Or.inr rfl))) (fun _ _ _ _ _ => (pts_one (pt_cmpR op_eq (pv 1) (pv 2) (nomark _)))) (fun _ _ _ _ _ => pe_int)) pa_nil)))) pa_nil))))
      , ?_⟩
    obtain ⟨ha, hlen, k⟩ := h
    refine ⟨4, rfl, by decide, by decide, fun D hD => lc_range (lo := 0) (n := 4) (fun i H' => Fr Tb [] H H' ∧ H' D = some (.lst (nIs (((List.range 4).take i).map fun t => l.count t)))) ⟨Fr.new hD, upd_same⟩ ?_ ?_⟩
    · rintro i H' hi ⟨f1, hL⟩
      have ev : V.int (0 + (i : Int)) = nI i := by rw [Int.zero_add]
      refine ⟨rfl, yes_lc ?_⟩
      rw [ev]
      delta tCB tCons tNil
      dsimp only
      refine lcSq (T := Tb) (ha.fr f1) (by rfl) (fun D2 j H2 => Fr Tb [] H' H2 ∧ H2 D2 = some (.lst (List.replicate ((l.take j).count i) (V.int 1)))) (fun D2 hD2 => ⟨Fr.new hD2, upd_same⟩) (fun D2 j H2 _ _ p => p.1) ?_ ?_
      · rintro D2 j x H2 hD2 hx ⟨f2, hL2⟩
        obtain ⟨t, ht, rfl⟩ := nIs_at hx
        have hj := (List.getElem?_eq_some_iff.mp ht).1
        refine ⟨rfl, _, rfl, _, rfl, rfl, _, rfl, ?_⟩
        have e : decide (nI t = nI i) = decide (t = i) := by
          by_cases z : t = i
          · rw [z, decide_eq_true rfl, decide_eq_true rfl]
          · rw [decide_eq_false z, decide_eq_false (fun y => z (by injection y with y; omega))]
        rw [e]
        by_cases z : t = i
        · rw [decide_eq_true z]
          refine iteT ⟨_, hL2, ?_, f2.lstw (.inl hD2) hL2, ?_⟩
          · rw [List.length_replicate]
            have := List.count_le_length (a := i) (l := l.take j)
            rw [List.length_take] at this
            exact Nat.lt_of_lt_of_le (by omega : List.count i (List.take j l) < 100000) (by decide)
          · rw [upd_same, count_snoc ht, if_pos z, List.replicate_succ']
        · rw [decide_eq_false z]
          refine iteF ⟨f2, ?_⟩
          rw [hL2, count_snoc ht, if_neg z, Nat.add_zero]
      · rintro D2 H2 hD2 ⟨f2, hL2⟩
        have hL3 := f2.lst0 hL
        refine ⟨D2, _, rfl, .inl (SqL.of hL2), _, hL3, ?_, (f1.trans f2).lstw (.inl hD) hL3, ?_⟩
        · rw [List.length_map, List.length_map, List.length_take]
          exact Nat.lt_of_le_of_lt (Nat.min_le_left _ _) (Nat.lt_of_lt_of_le hi (by decide))
        · rw [upd_same, take_snoc (List.getElem?_range hi), List.length_replicate, show (nIs l).length = l.length from List.length_map _, List.take_length]
          simp [nIs]
    · rintro H' ⟨f1, hL⟩
      refine ⟨D, _, rfl, .inl ⟨SqL.of hL, fun p hp => ?_⟩⟩
      exact k _ p (f1.upd_new hp) (f1.free hp) (by rw [upd_same]; rfl)
/-! ### _law_let -/
def spLLet (K : PySem.W.Frag) (Tb : List (Addr × Str)) : Sp := fun vs H Q _ => ∃ a da c E d, vs = [.ref a, .ref da] ∧ LedAt H a c E ∧ SqT K H da (nIs d) ∧ c.length = 4 ∧ d.length = 4 ∧ EIn E ∧ E.length ≤ 1000 ∧ ∀ H' p, Fr Tb [] H H' → H p = none → H' p = some (.lst (nIs (lets c E d))) → Q (.ref p) H'
theorem sc__law_let : FnScope ["_law_ledger_here", "_law_done_here", "_law_found", "_law_thread_here", "_law_name", "_law_one", "_law_other"] ["_law_ledger_here", "_law_done_here"] (defScope (top 50)) := ⟨rfl, rfl, rfl, by decide +kernel, rfl, by decide +kernel, by decide +kernel⟩
def badB (d : List Nat) (t : Nat) (e : En) : Bool := decide (e.2 = (t, at0 d t)) && decide (at0 d e.1.1 ≤ e.1.2)
theorem free_bad (E : List En) (d : List Nat) (t : Nat) : freeB E d t = (E.filter (badB d t)).isEmpty := by
  unfold freeB
  induction E with
  | nil => rfl
  | cons e E ih =>
    rw [List.all_cons, ih, List.filter_cons]
    unfold badB
    by_cases h1 : e.2 = (t, at0 d t)
    · by_cases h2 : e.1.2 < at0 d e.1.1
      · simp [h1, h2, Nat.not_le.mpr h2]
      · simp [h1, h2, Nat.le_of_not_lt h2]
    · simp [h1]
theorem eq_nil_read {K : PySem.W.Frag} {H : Hp} {a b : Addr} {l : List Nat} {Q : VK} (ha : H a = some (.lst (nIs l))) (hb : H b = some (.lst [])) (q : Q (.bl l.isEmpty) H) : rEqD K (.ref a) (.ref b) H Q := by
  refine ⟨.list (nD l), .list (nD []), .lst (SqL.of ha) (dpN l), .lst (SqL.of hb) .nil, shapedL l, shapedL [], ?_⟩
  have e : PyData.eqv (.list (nD l)) (.list (nD [])) = l.isEmpty := by
    rw [eqvL]
    cases l <;> simp
  rw [e]
  exact q
theorem eq_nm_read {K : PySem.W.Frag} {H : Hp} {a b : Addr} {n m : Nm} {Q : VK} (ha : NmAt H a n) (hb : NmAt H b m) (q : Q (.bl (decide (n = m))) H) : rEqD K (.ref a) (.ref b) H Q := by
  refine ⟨.tuple (nD [n.1, n.2]), .tuple (nD [m.1, m.2]), .tup (SqT.of ha) (dpN [n.1, n.2]), .tup (SqT.of hb) (dpN [m.1, m.2]), shapedT _, shapedT _, ?_⟩
  rw [eqvT]
  have e : decide ([n.1, n.2] = [m.1, m.2]) = decide (n = m) := by
    by_cases z : n = m
    · rw [z, decide_eq_true rfl, decide_eq_true rfl]
    · rw [decide_eq_false z, decide_eq_false fun y => z (by
        injection y with y1 y2
        injection y2 with y2 _
        exact Prod.ext y1 y2)]
  rw [e]
  exact q
theorem ok_law_let (F : Fun K "_law_let" "_law_let" (top 50) f fd) (T : Txt mg) : FnOk P w K mg base CX0 1 f fd ["_law_ledger_here", "_law_done_here"] (spLLet K Tb) := by
  refine F.ok sc__law_let (fun vs H Q E h => ?_) (fun cdv A outer s H vs Q E hr h => ?_)
  · obtain ⟨a, da, c, E, d, rfl, _⟩ := h
    rfl
  · obtain ⟨a, da, c, En, d, rfl, h⟩ := h
    refine ⟨_, 
      (pss_cons (ps_set (i := 2) sc__law_let.nd rfl (by first | exact Or.inl rfl | exact Or.inr rfl) (pe_lst pa_nil))
      (pss_cons (ps_for PassesOwn.never rfl (pi_range1 (by rfl) T.f_range (pa_cons pe_int pa_nil)) (pg_name (i := 3) sc__law_let.nd rfl (by first | exact Or.inl rfl | exact Or.inr rfl))
      (pss_one (ps_if (pt_cmpR op_lt (pe_ix (ixT K) (pv 1) (pv 3) (fun _ _ => rfl)) (pe_ix (ixT K) (pe_ix (ixT K) (pv 0) pe_int (fun _ _ => rfl)) (pv 3) (fun _ _ => rfl)) (nomark _))
      (pss_cons (ps_set (i := 4) sc__law_let.nd rfl (by first | exact Or.inl rfl | exact Or.inr rfl) (pe_tup (pa_cons (pv 3) (pa_cons (pe_ix (ixT K) (pv 1) (pv 3) (fun _ _ => rfl)) pa_nil))))
      (pss_one (ps_if (pt_cmpR (opEq K hr.units) (pe_lc (own := [("_law_one", 5), ("_law_other", 6)]) (by rfl) sc__law_let.nd (piT K (pe_ix (ixT K) (pv 0) pe_int (fun _ _ => rfl))) (blkOk_by (by kernel_rfl)) (fun _ _ _ _ _ => (pgT (n := 2) K (by rfl) (pgs_cons (pg_name (i := 5) sc__law_let.nd rfl (by first | exact Or.inl rfl | exact Or.inr rfl)) (pgs_cons (pg_name (i := 6) sc__law_let.nd rfl (by first | exact Or.inl rfl | exact Or.inr rfl)) pgs_nil)))) (fun _ _ _ _ _ => (pts_one (PW.pt (pw_and (pt_cmpR (opEq K hr.units) (pv 6) (pv 4) (nomark _)) (pw_and1 (pt_cmpR op_le (pe_ix (ixT K) (pv 1) (pe_ix (ixT K) (pv 5) pe_int (fun _ _ => rfl)) (fun _ _ => rfl)) (pe_ix (ixT K) (pv 5) pe_int (fun _ _ => rfl)) (nomark _))))))) (fun _ _ _ _ _ => pe_int)) (pe_lst pa_nil) (nomark _))
      (pss_one (ps_expr (peBm K PySem.F.plainAttrs_list PySem.F.slot_list_append PySem.F.type_list_append mt_append (pv 2) (pa_cons (pv 3) pa_nil)))) pss_nil))) pss_nil)))
      (pss_one (ps_ret (pv 2)))))
      , ?_⟩
    obtain ⟨hL, hd, hc4, hd4, hE, hlen, k⟩ := h
    refine ⟨Nat.zero_le _, fun fp hfp => ?_⟩
    refine ⟨4, rfl, by decide, by decide, for_range (lo := 0) (n := 4) (fun i σ H' => ∃ x3 x4, σ = [some (.ref a), some (.ref da), some (.ref fp), x3, x4, none, none] ∧ Fr Tb [] H H' ∧ H' fp = some (.lst (nIs (((List.range 4).take i).filter fun t => decide (at0 d t < at0 c t) && freeB En d t)))) ⟨none, none, rfl, Fr.new hfp, upd_same⟩ ?_ ?_⟩
    · rintro i σ H' hi ⟨x3, x4, rfl, f1, hf⟩
      have ev : V.int (0 + (i : Int)) = nI i := by rw [Int.zero_add]
      rw [ev]
      obtain ⟨ca, ea, vs, h1, h2, h3, h4⟩ := hL.fr f1
      have hd1 := SqT.fr hd f1
      have take1 : (List.range 4).take (i + 1) = (List.range 4).take i ++ [i] := take_snoc (List.getElem?_range hi)
      refine ⟨_, rfl, _, rfl, da, _, _, _, rfl, rfl, hd1, atI_nIs (by omega), _, rfl, a, _, 0, _, rfl, rfl, SqT.of h1, rfl, _, rfl, ca, _, _, _, rfl, rfl, SqT.of h2, atI_nIs (by omega), _, _, rfl, rfl, _, rfl, ?_⟩
      have e : decide ((at0 d i : Int) < (at0 c i : Int)) = decide (at0 d i < at0 c i) := by
        by_cases z : at0 d i < at0 c i
        · rw [decide_eq_true z, decide_eq_true (by omega)]
        · rw [decide_eq_false z, decide_eq_false (by omega)]
      rw [e]
      by_cases hlt : at0 d i < at0 c i
      · rw [decide_eq_true hlt]
        refine iteT ⟨_, rfl, _, rfl, _, rfl, da, _, _, _, rfl, rfl, hd1, atI_nIs (by omega), (by show 2 ≤ sizeLine; decide), fun np hnp => ?_⟩
        have f2 : Fr Tb [] H' (upd H' np (.tup [nI i, nI (at0 d i)])) := Fr.new hnp
        have hn2 : NmAt (upd H' np (.tup [nI i, nI (at0 d i)])) np (i, at0 d i) := upd_same
        have hf2 := f2.lst0 hf
        generalize upd H' np (.tup [nI i, nI (at0 d i)]) = H2 at f2 hn2 hf2
        refine ⟨_, rfl, a, _, 1, _, rfl, rfl, SqT.of (f2.tup0 h1), rfl, ea, rfl, ⟨_, SqT.of (f2.tup0 h3)⟩, fun D hD => lc_tup (K := K) (a := ea) (xs := vs) (fun j H3 => Fr Tb [] H2 H3 ∧ H3 D = some (.lst (nIs (((En.take j).filter (badB d i)).map fun _ => 1)))) ⟨Fr.new hD, upd_same⟩ (fun j H3 _ q => SqT.of (q.1.tup0 (f2.tup0 h3))) ?_ ?_⟩
        · rintro j x H3 hx ⟨f3, hD3⟩
          obtain ⟨e, he, ep, rfl, hep⟩ := Paired.at h4 hx
          obtain ⟨p, q, g1, g2, g3⟩ := (hep.fr f2).fr f3
          have hein := hE e (List.mem_of_getElem? he)
          refine ⟨ep, _, rfl, SqT.of g1, rfl, _, _, rfl, _, _, rfl, rfl, rfl, ?_⟩
          refine ⟨_, rfl, _, rfl, eq_nm_read g3 (hn2.fr f3) ⟨_, rfl, ?_⟩⟩
          by_cases b1 : e.2 = (i, at0 d i)
          · rw [decide_eq_true b1]
            refine iteT ⟨_, rfl, _, rfl, p, _, 0, _, rfl, rfl, SqT.of g2, rfl, da, _, _, _, rfl, rfl, SqT.fr hd1 (f2.trans f3), atI_nIs (by omega), _, rfl, p, _, 1, _, rfl, rfl, SqT.of g2, rfl, _, _, rfl, rfl, _, rfl, ?_⟩
            by_cases b2 : at0 d e.1.1 ≤ e.1.2
            · rw [decide_eq_true (by omega)]
              refine iteT ⟨_, hD3, ?_, f3.lstw (.inl hD) hD3, ?_⟩
              · rw [List.length_map, List.length_map]
                refine Nat.lt_of_le_of_lt (List.length_filter_le _ _) ?_
                rw [List.length_take]
                exact Nat.lt_of_le_of_lt (by omega : min j En.length ≤ 1000) (by decide)
              · rw [upd_same, take_snoc he, List.filter_append]
                have z : badB d i e = true := by unfold badB; rw [decide_eq_true b1, decide_eq_true b2]; rfl
                simp [z, nIs]
            · rw [decide_eq_false (by omega)]
              refine iteF ⟨f3, ?_⟩
              rw [hD3, take_snoc he, List.filter_append]
              have z : badB d i e = false := by unfold badB; rw [decide_eq_false b2, Bool.and_false]
              simp [z]
          · rw [decide_eq_false b1]
            refine iteF (iteF ⟨f3, ?_⟩)
            rw [hD3, take_snoc he, List.filter_append]
            have z : badB d i e = false := by unfold badB; rw [decide_eq_false b1, Bool.false_and]
            simp [z]
        · rintro H3 ⟨f3, hD3⟩
          rw [show vs.length = En.length from Paired.length h4, List.take_length] at hD3
          refine ⟨Nat.zero_le _, fun b hb => ?_⟩
          have f4 : Fr Tb [] H3 (upd H3 b (.lst [])) := Fr.new hb
          refine eq_nil_read (f4.lst0 hD3) upd_same ⟨_, rfl, ?_⟩
          have ee : ((En.filter (badB d i)).map fun _ => 1).isEmpty = freeB En d i := by
            rw [free_bad]
            cases En.filter (badB d i) <;> rfl
          rw [ee]
          have f5 : Fr Tb [] H (upd H3 b (.lst [])) := f1.trans (f2.trans (f3.trans f4))
          have hf5 := f4.lst0 (f3.lst0 hf2)
          generalize upd H3 b (.lst []) = H5 at f4 f5 hf5
          cases hfr : freeB En d i with
          | false =>
            refine iteF ⟨_, _, rfl, f5, ?_⟩
            rw [take1, List.filter_append, hf5]
            simp [hlt, hfr]
          | true =>
            refine iteT ⟨_, rfl, .inl ⟨rfl, _, SqL.of hf5⟩, _, rfl, fp, _, _, rfl, rfl, hf5, ?_, _, _, rfl, f5.lstw (.inl hfp) hf5, ?_⟩
            · rw [List.length_map]
              refine Nat.lt_of_le_of_lt (List.length_filter_le _ _) ?_
              rw [List.length_take, List.length_range]
              exact Nat.lt_of_le_of_lt (Nat.min_le_right _ _) (by decide)
            · rw [upd_same, take1, List.filter_append]
              simp [hlt, hfr, nIs]
      · rw [decide_eq_false hlt]
        refine iteF ⟨_, _, rfl, f1, ?_⟩
        rw [take1, List.filter_append, hf]
        simp [hlt]
    · rintro σ H' ⟨x3, x4, rfl, f1, hf⟩
      exact ⟨_, rfl, k H' fp f1 hfp hf⟩
end
end K81
set_option maxHeartbeats 2000000
namespace K81
open PySem PySem.Spec PyProof.Rows L2 LamX K81M StX RZ
theorem catF_read {K : PySem.W.Frag} {T : List (Addr × Str)} {H : Hp} {a b : Addr} {l : List Nat} {t : Nat} {Q : VK} (ha : FzT H a (nIs l)) (hb : FzT H b [nI t]) (hl : l.length ≤ 1000) (q : ∀ p H3, Fr T [] H H3 → FzT H3 p (nIs (l ++ [t])) → Q (.ref p) H3) : rCatF K (.ref a) (.ref b) H Q := by
  refine ⟨a, b, nIs l, [nI t], rfl, rfl, ha.sq, hb.sq, by simp, ?_, fun e => ?_, fun _ => ?_⟩
  · rw [List.length_map]
    exact Nat.le_trans (by simp; omega : l.length + [nI t].length ≤ 1001) (by decide)
  · have : l = [] := by simpa using e
    subst this
    exact q b H .refl hb
  · refine NewF.of (T := T) fun p H' f _ h => q p H' f ?_
    rw [show nIs (l ++ [t]) = nIs l ++ [nI t] by simp [nIs]]
    exact h
theorem catA_read {K : PySem.W.Frag} {T : List (Addr × Str)} {H : Hp} {a b : Addr} {xs ys : List V} {Q : VK} (ha : H a = some (.tup xs)) (hb : H b = some (.tup ys)) (hl : xs.length + ys.length ≤ 1000) (q : ∀ p H3, Fr T [] H H3 → H3 p = some (.tup (xs ++ ys)) → Q (.ref p) H3) : rCatA K (.ref a) (.ref b) H Q := by
  refine ⟨a, b, xs, ys, rfl, rfl, SqT.of ha, SqT.of hb, Nat.le_trans hl (by decide), fun e => ?_, fun _ e => ?_, fun _ _ p hp => q p _ (Fr.new hp) upd_same⟩
  · subst e
    exact q b H .refl hb
  · subst e
    exact q a H .refl (by rw [List.append_nil]; exact ha)
def LnAt (H : Hp) (a : Addr) (p : List Nat × List Nat) : Prop := ∃ pa da, H a = some (.tup [.ref pa, .ref da]) ∧ FzT H pa (nIs p.1) ∧ TupAt H da p.2
theorem LnAt.fr {T : List (Addr × Str)} {H H' : Hp} {a : Addr} {p : List Nat × List Nat} (h : LnAt H a p) (f : Fr T [] H H') : LnAt H' a p := by
  obtain ⟨pa, da, h1, h2, h3⟩ := h
  exact ⟨pa, da, f.tup0 h1, f.fz0 h2, f.tup0 h3⟩
theorem LnAt.lst {H : Hp} {a m : Addr} {p : List Nat × List Nat} {xs ys : List V} (h : LnAt H a p) (hm : H m = some (.lst xs)) : LnAt (upd H m (.lst ys)) a p := by
  obtain ⟨pa, da, h1, ⟨o, h2, h2'⟩, h3⟩ := h
  exact ⟨pa, da, by rw [upd_ne (ne_of h1 hm (by intro z; cases z))]; exact h1, ⟨o, h2, by rw [upd_ne (ne_of h2' hm (by intro z; cases z))]; exact h2'⟩, by unfold TupAt at h3 ⊢; rw [upd_ne (ne_of h3 hm (by intro z; cases z))]; exact h3⟩
def FzAt (H : Hp) (a : Addr) (w : List Nat) : Prop := FzT H a (nIs w)
section
variable {P : Program} {w : World} {K : PySem.W.Frag} {mg : Str → Option Value} {base : Heap} {Tb : List (Addr × Str)} {f : Addr} {fd : FuncData}
/-! ### _law_all_woven -/
def spAll (Tb : List (Addr × Str)) : Sp := fun vs H Q _ => ∃ a c E, vs = [.ref a, .int 1000000000] ∧ LedAt H a c E ∧ c.length = 4 ∧ EIn E ∧ E.length ≤ 1000 ∧ c.sum ≤ 8 ∧ ∀ H' p vs, Fr Tb [] H H' → H p = none → H' p = some (.lst vs) → Refs FzAt H' vs (every c E) → Q (.ref p) H'
theorem sc__law_all_woven : FnScope ["_law_ledger_here", "_law_most", "_law_line", "_law_lap", "_law_more", "_law_told", "_law_done_here", "_law_thread_here", "_law_after"] ["_law_ledger_here", "_law_most"] (defScope (top 51)) := ⟨rfl, rfl, rfl, by decide +kernel, rfl, by decide +kernel, by decide +kernel⟩
theorem pow4 {i : Nat} (h : i ≤ 8) : 4 ^ i ≤ 65536 := Nat.le_trans (Nat.pow_le_pow_right (by decide) h) (by decide)
theorem wider_snoc {c : List Nat} {E : List En} {l : List (List Nat × List Nat)} {j : Nat} {p : List Nat × List Nat} (h : l[j]? = some p) : wider c E (l.take (j + 1)) = wider c E (l.take j) ++ (lets c E p.2).map fun t => (p.1 ++ [t], bump p.2 t) := by
  unfold wider
  rw [take_snoc h, List.flatMap_append]
  simp
theorem ok_law_all_woven (F : Fun K "_law_all_woven" "_law_all_woven" (top 51) f fd) (T : Txt mg) (C__law_let : Cl P w K mg base CX0 1 "_law_let" (spLLet K Tb)) : FnOk P w K mg base CX0 2 f fd ["_law_ledger_here", "_law_most"] (spAll Tb) := by
  refine F.ok sc__law_all_woven (fun vs H Q E h => ?_) (fun cdv A outer s H vs Q E hr h => ?_)
  · obtain ⟨a, c, E, rfl, _⟩ := h
    rfl
  · obtain ⟨a, c, En, rfl, h⟩ := h
    refine ⟨_, 
      (pss_cons (ps_set (i := 2) sc__law_all_woven.nd rfl (by first | exact Or.inl rfl | exact Or.inr rfl) (pe_lst (pa_cons (pe_tup (pa_cons (pe_tupF pa_nil) (pa_cons (pe_tup (pa_cons pe_int (pa_cons pe_int (pa_cons pe_int (pa_cons pe_int pa_nil))))) pa_nil))) pa_nil)))
      (pss_cons (ps_for PassesOwn.never rfl (pi_range1 (by rfl) T.f_range (pa_cons (pe_callB (crSumT K rfl) (by rfl) T.f_sum (by decide +kernel) (pa_cons (pe_ix (ixT K) (pv 0) pe_int (fun _ _ => rfl)) pa_nil)) pa_nil)) (pg_name (i := 3) sc__law_all_woven.nd rfl (by first | exact Or.inl rfl | exact Or.inr rfl))
      (pss_cons (ps_set (i := 4) sc__law_all_woven.nd rfl (by first | exact Or.inl rfl | exact Or.inr rfl) (pe_lst pa_nil))
      (pss_cons (ps_for PassesOwn.never rfl (piL K (pv 2)) (pgT (n := 2) K (by rfl) (pgs_cons (pg_name (i := 5) sc__law_all_woven.nd rfl (by first | exact Or.inl rfl | exact Or.inr rfl)) (pgs_cons (pg_name (i := 6) sc__law_all_woven.nd rfl (by first | exact Or.inl rfl | exact Or.inr rfl)) pgs_nil)))
      (pss_one (ps_for PassesOwn.never rfl (piL K (cl0 C__law_let hr (by decide) (by rfl) (pa_cons (pv 0) (pa_cons (pv 6) pa_nil)))) (pg_name (i := 7) sc__law_all_woven.nd rfl (by first | exact Or.inl rfl | exact Or.inr rfl))
      (pss_cons (ps_set (i := 8) sc__law_all_woven.nd rfl (by first | exact Or.inl rfl | exact Or.inr rfl) (pe_op (opCat K) (pe_op (opCat K) (pe_slice (slT K) (pv 6) po_none (po_some (pv 7))) (pe_tup (pa_cons (pe_op op_add (pe_ix (ixT K) (pv 6) (pv 7) (fun _ _ => rfl)) pe_int) pa_nil))) (pe_slice (slT K) (pv 6) (po_some (pe_op op_add (pv 7) pe_int)) po_none)))
      (pss_one (ps_expr (peBm K PySem.F.plainAttrs_list PySem.F.slot_list_append PySem.F.type_list_append mt_append (pv 4) (pa_cons (pe_tup (pa_cons (pe_op (opCatF K) (pv 5) (pe_tupF (pa_cons (pv 7) pa_nil))) (pa_cons (pv 8) pa_nil))) pa_nil))))))))
      (pss_cons (ps_set (i := 2) sc__law_all_woven.nd rfl (by first | exact Or.inl rfl | exact Or.inr rfl) (pv 4))
      (pss_one (ps_if (pt_cmpR op_gt (pe_callB (crLen K) (by rfl) T.f_len PySem.boot_len (pa_cons (pv 2) pa_nil)) (pv 1) (nomark _))
      (pss_one (ps_ret pe_non)) pss_nil))))))
      (pss_one (ps_ret (pe_lc (own := [("_law_told", 5), ("_law_done_here", 6)]) (by rfl) sc__law_all_woven.nd (piL K (pv 2)) (blkOk_by (by kernel_rfl)) (fun _ _ _ _ _ => (pgT (n := 2) K (by rfl) (pgs_cons (pg_name (i := 5) sc__law_all_woven.nd rfl (by first | exact Or.inl rfl | exact Or.inr rfl)) (pgs_cons (pg_name (i := 6) sc__law_all_woven.nd rfl (by first | exact Or.inl rfl | exact Or.inr rfl)) pgs_nil)))) (fun _ _ _ _ _ => pts_nil) (fun _ _ _ _ _ => (pv 5)))))))
      , ?_⟩
    obtain ⟨hL, hc4, hE, hlen, hsum, k⟩ := h
    refine ⟨Nat.zero_le _, NewF.of (T := Tb) fun ep H1 f1 _ he => ?_⟩
    refine ⟨by show 4 ≤ sizeLine; decide, fun zp hzp => ⟨by show 2 ≤ sizeLine; decide, fun pp hpp => ⟨by show 1 ≤ sizeLine; decide, fun lp hlp => ?_⟩⟩⟩
    have f2 : Fr Tb [] H1 (upd H1 zp (.tup (nIs zero4))) := Fr.new hzp
    have f3 : Fr Tb [] H1 (upd (upd H1 zp (.tup (nIs zero4))) pp (.tup [.ref ep, .ref zp])) := f2.upd_new hpp
    have e3 : Fr Tb [] (upd H1 zp (.tup (nIs zero4))) (upd (upd H1 zp (.tup (nIs zero4))) pp (.tup [.ref ep, .ref zp])) := Fr.new hpp
    have hz3 := e3.tup0 (upd_same (H := H1) (a := zp))
    have hln : LnAt (upd (upd H1 zp (.tup (nIs zero4))) pp (.tup [.ref ep, .ref zp])) pp ([], zero4) := ⟨ep, zp, upd_same, f3.fz0 he, hz3⟩
    have f4 : Fr Tb [] H (upd (upd (upd H1 zp (.tup (nIs zero4))) pp (.tup [.ref ep, .ref zp])) lp (.lst [.ref pp])) := (f1.trans f3).upd_new hlp
    have hl4 : upd (upd (upd H1 zp (.tup (nIs zero4))) pp (.tup [.ref ep, .ref zp])) lp (.lst [.ref pp]) lp = some (.lst [.ref pp]) := upd_same
    have hR4 : Refs LnAt (upd (upd (upd H1 zp (.tup (nIs zero4))) pp (.tup [.ref ep, .ref zp])) lp (.lst [.ref pp])) [.ref pp] (line c En 0) := .cons ⟨pp, rfl, hln.fr (Fr.new (T := Tb) hlp)⟩ .nil
    show tSeq _ _ _ _ (upd (upd (upd H1 zp (.tup (nIs zero4))) pp (.tup [.ref ep, .ref zp])) lp (.lst [.ref pp]))
    generalize upd (upd (upd H1 zp (.tup (nIs zero4))) pp (.tup [.ref ep, .ref zp])) lp (.lst [.ref pp]) = H4 at f4 hl4 hR4
    obtain ⟨ca, ea, vs, h1, h2, h3, h4⟩ := hL.fr f4
    refine ⟨_, rfl, a, _, 0, _, rfl, rfl, SqT.of h1, rfl, ca, c.map fun n : Nat => (n : Int), rfl, SqT.of (by rw [← nIs_int]; exact h2), ?_⟩
    rw [castSum]
    refine ⟨(c.sum : Int), rfl, by omega, by omega, for_range (lo := 0) (n := c.sum) (fun i σ H' => ∃ lp vs x3 x4 x5 x6 x7 x8, σ = [some (.ref a), some (.int 1000000000), some (.ref lp), x3, x4, x5, x6, x7, x8] ∧ Fr Tb [] H H' ∧ H' lp = some (.lst vs) ∧ Refs LnAt H' vs (line c En i)) ?_ ?_ ?_⟩
    · exact ⟨lp, _, none, none, none, none, none, none, rfl, f4, hl4, hR4⟩
    · rintro i σ H5 hi ⟨lp, ws, x3, x4, x5, x6, x7, x8, rfl, f5, hl5, hR5⟩
      have wlen : ws.length ≤ 16384 := by
        rw [Paired.length hR5]
        exact Nat.le_trans (line_length c En i) (Nat.le_trans (Nat.pow_le_pow_right (by decide) (by omega : i ≤ 7)) (by decide))
      refine ⟨Nat.zero_le _, fun mp hmp => ?_⟩
      have f6 : Fr Tb [] H5 (upd H5 mp (.lst [])) := Fr.new hmp
      have hm6 : upd H5 mp (.lst []) mp = some (.lst []) := upd_same
      refine ⟨_, rfl, lp, rfl, ⟨_, SqL.of (f6.lst0 hl5)⟩, for_list (K := K) (a := lp) (xs := ws) (fun j σ H' => ∃ zs y5 y6 y7 y8, σ = [some (.ref a), some (.int 1000000000), some (.ref lp), some (.int (0 + i)), some (.ref mp), y5, y6, y7, y8] ∧ Fr Tb [] H5 H' ∧ H' mp = some (.lst zs) ∧ Refs LnAt H' zs (wider c En ((line c En i).take j))) ⟨[], _, _, _, _, rfl, f6, hm6, .nil⟩ (fun j σ H' _ ⟨_, _, _, _, _, _, f, _⟩ => SqL.of (f.lst0 hl5)) ?_ ?_⟩
      · rintro j x σ H7 hx ⟨zs, y5, y6, y7, y8, rfl, f7, hm7, hR7⟩
        obtain ⟨p, hp, la, rfl, hla⟩ := Paired.at hR5 hx
        obtain ⟨pa, da, g1, g2, g3⟩ := hla.fr f7
        have hj := (List.getElem?_eq_some_iff.mp hx).1
        obtain ⟨q1, q2, q3⟩ := line_len4 i p (List.mem_of_getElem? hp)
        have zlen : zs.length ≤ 4 * j := by
          rw [Paired.length hR7]
          refine Nat.le_trans (wider_length _) ?_
          rw [List.length_take]
          omega
        refine ⟨la, _, rfl, SqT.of g1, rfl, _, _, rfl, _, _, rfl, rfl, ?_⟩
        refine ⟨_, rfl, _, rfl, a, da, c, En, p.2, rfl, (hL.fr f5).fr f7, SqT.of g3, hc4, q1, hE, hlen, fun H8 tp f8 htp ht8 => ?_⟩
        have tne : mp ≠ tp := ne_of_none hm7 htp
        refine ⟨tp, rfl, ⟨_, SqL.of ht8⟩, for_list (K := K) (a := tp) (xs := nIs (lets c En p.2)) (fun k σ H' => ∃ zs y7 y8, σ = [some (.ref a), some (.int 1000000000), some (.ref lp), some (.int (0 + i)), some (.ref mp), some (.ref pa), some (.ref da), y7, y8] ∧ Fr Tb [] H5 H' ∧ H' mp = some (.lst zs) ∧ FzT H' pa (nIs p.1) ∧ TupAt H' da p.2 ∧ H' tp = some (.lst (nIs (lets c En p.2))) ∧
          Refs LnAt H' zs (wider c En ((line c En i).take j) ++ ((lets c En p.2).take k).map fun t => (p.1 ++ [t], bump p.2 t))) ?_ (fun k σ H' _ ⟨_, _, _, _, _, _, _, _, h, _⟩ => SqL.of h) ?_ ?_⟩
        · exact ⟨zs, _, _, rfl, f7.trans f8, f8.lst0 hm7, f8.fz0 g2, f8.tup0 g3, ht8, by
            rw [List.take_zero, List.map_nil, List.append_nil]
            exact hR7.fr fun a x q => q.fr f8⟩
        · rintro k x σ H9 hx ⟨us, y7, y8, rfl, f9, hm9, hp9, hd9, ht9, hR9⟩
          obtain ⟨t, ht, rfl⟩ := nIs_at hx
          have hk := (List.getElem?_eq_some_iff.mp ht).1
          have hl4 := lets_le c En p.2
          have t4 : t < 4 := (mem_lets.mp (List.mem_of_getElem? ht)).1
          have ulen : us.length ≤ 4 * j + k := by
            rw [Paired.length hR9, List.length_append, List.length_map, List.length_take]
            have z := wider_length (c := c) (E := En) ((line c En i).take j)
            rw [List.length_take] at z
            omega
          have d4 : (nIs p.2).length = 4 := by rw [List.length_map]; exact q1
          -- done[:t]
          refine ⟨_, rfl, ?_⟩
          delta tNoPart
          dsimp only
          refine ⟨_, rfl, _, rfl, slHi (T := Tb) (t := t) (SqT.of hd9) fun b1 H10 f10 _ hb1 => ?_⟩
          have hb1 := hb1 hd9
          have hd10 : TupAt H10 da p.2 := f10.tup0 hd9
          refine ⟨_, rfl, _, rfl, ⟨da, _, _, _, rfl, rfl, SqT.of hd10, atI_nIs (by omega), _, _, rfl, rfl, (by show 1 ≤ sizeLine; decide), fun b2 hb2 => ?_⟩⟩
          have f11 : Fr Tb [] H10 (upd H10 b2 (.tup [V.int ((at0 p.2 t : Int) + 1)])) := Fr.new hb2
          have hb21 : upd H10 b2 (.tup [V.int ((at0 p.2 t : Int) + 1)]) b2 = some (.tup [V.int ((at0 p.2 t : Int) + 1)]) := upd_same
          generalize upd H10 b2 (.tup [V.int ((at0 p.2 t : Int) + 1)]) = H11 at f11 hb21
          refine catA_read (T := Tb) (f11.tup0 hb1) hb21 ?_ fun b3 H12 f12 hb3 => ?_
          · have z : ((nIs p.2).take t).length = min t (nIs p.2).length := List.length_take
            rw [z]
            show min t (nIs p.2).length + 1 ≤ 1000
            omega
          have f1012 := f11.trans f12
          have hd12 : TupAt H12 da p.2 := f1012.tup0 hd10
          refine ⟨_, rfl, _, rfl, _, _, rfl, rfl, _, rfl, ?_⟩
          dsimp only
          refine slLo (T := Tb) (t := t + 1) (SqT.of hd12) fun b4 H13 f13 _ hb4 => ?_
          have hb4 := hb4 hd12
          refine catA_read (T := Tb) (f13.tup0 hb3) hb4 ?_ fun b5 H14 f14 hb5 => ?_
          · rw [List.length_append, List.length_take, List.length_drop]
            show min t (nIs p.2).length + 1 + ((nIs p.2).length - (t + 1)) ≤ 1000
            omega
          rw [List.append_assoc] at hb5
          have e5 : (nIs p.2).take t ++ ([V.int ((at0 p.2 t : Int) + 1)] ++ (nIs p.2).drop (t + 1)) = nIs (bump p.2 t) := nIs_bump (by omega)
          rw [e5] at hb5
          have f914 : Fr Tb [] H9 H14 := f10.trans (f1012.trans (f13.trans f14))
          have hm14 := f914.lst0 hm9
          have hp14 := f914.fz0 hp9
          -- told + (t,)
          refine ⟨_, rfl, .inl ⟨rfl, _, SqL.of hm14⟩, _, rfl, _, rfl, by show 1 ≤ sizeLine; decide, NewF.of (T := Tb) fun c1 H15 f15 _ hc1 => ?_⟩
          refine catF_read (T := Tb) (f15.fz0 hp14) hc1 (by omega) fun c2 H16 f16 hc2 => ?_
          refine ⟨_, rfl, by show 2 ≤ sizeLine; decide, fun c3 hc3 => ?_⟩
          have f17 : Fr Tb [] H16 (upd H16 c3 (.tup [.ref c2, .ref b5])) := Fr.new hc3
          have hc317 : upd H16 c3 (.tup [.ref c2, .ref b5]) c3 = some (.tup [.ref c2, .ref b5]) := upd_same
          generalize upd H16 c3 (.tup [.ref c2, .ref b5]) = H17 at f17 hc317
          have f1417 : Fr Tb [] H14 H17 := f15.trans (f16.trans f17)
          have f917 := f914.trans f1417
          have hm17 := f1417.lst0 hm14
          have hln : LnAt H17 c3 (p.1 ++ [t], bump p.2 t) := ⟨c2, b5, hc317, f17.fz0 hc2, f1417.tup0 hb5⟩
          refine ⟨mp, us, _, rfl, rfl, hm17, ?_, ?_⟩
          · have : j ≤ 16384 := by omega
            exact Nat.lt_of_lt_of_le (by omega : us.length < 100000) (by decide)
          refine ⟨us ++ [.ref c3], some (nI t), some (.ref b5), rfl, (f9.trans f917).lstw (.inl hmp) hm17, upd_same, ?_, ?_, ?_, ?_⟩
          · obtain ⟨o, u1, u2⟩ := f917.fz0 hp9
            exact ⟨o, u1, by rw [upd_ne (ne_of u2 hm17 (by intro z; cases z))]; exact u2⟩
          · have u := f917.tup0 hd9
            show upd _ _ _ da = _
            rw [upd_ne (ne_of u hm17 (by intro z; cases z))]
            exact u
          · rw [upd_ne tne.symm]
            exact f917.lst0 ht9
          · rw [take_snoc ht, List.map_append, ← List.append_assoc]
            exact Paired.snoc ⟨c3, rfl, hln.lst hm17⟩ (hR9.fr fun a x q => (q.fr f917).lst hm17)
        · rintro σ H9 ⟨us, y7, y8, rfl, f9, hm9, hp9, hd9, ht9, hR9⟩
          refine ⟨us, _, _, _, _, rfl, f9, hm9, ?_⟩
          rw [wider_snoc hp]
          rw [show (nIs (lets c En p.2)).length = (lets c En p.2).length from List.length_map _, List.take_length] at hR9
          exact hR9
      · rintro σ H7 ⟨zs, y5, y6, y7, y8, rfl, f7, hm7, hR7⟩
        rw [show ws.length = (line c En i).length from Paired.length hR5, List.take_length] at hR7
        have zlen : zs.length ≤ 65536 := by
          rw [Paired.length hR7]
          exact Nat.le_trans (line_length c En (i + 1)) (pow4 (by omega))
        refine ⟨_, rfl, _, rfl, mp, _, rfl, .inl (SqL.of hm7), _, rfl, _, _, rfl, rfl, _, rfl, ?_⟩
        rw [decide_eq_false (by omega)]
        exact iteF ⟨mp, zs, _, _, _, _, _, _, rfl, f5.trans f7, hm7, hR7⟩
    · rintro σ H5 ⟨lp, ws, x3, x4, x5, x6, x7, x8, rfl, f5, hl5, hR5⟩
      have wlen : ws.length ≤ 65536 := by
        rw [Paired.length hR5]
        exact Nat.le_trans (line_length c En c.sum) (pow4 hsum)
      refine ⟨_, rfl, lp, rfl, ⟨_, SqL.of hl5⟩, fun D hD => lc_list (K := K) (a := lp) (xs := ws) (fun j H' => Fr Tb [] H5 H' ∧ ∃ zs, H' D = some (.lst zs) ∧ Refs FzAt H' zs (((line c En c.sum).take j).map (·.1))) ⟨Fr.new hD, [], upd_same, .nil⟩ (fun j H' _ q => SqL.of (q.1.lst0 hl5)) ?_ ?_⟩
      · rintro j x H6 hx ⟨f6, zs, hz, hR6⟩
        obtain ⟨p, hp, la, rfl, hla⟩ := Paired.at hR5 hx
        obtain ⟨pa, da, g1, g2, g3⟩ := hla.fr f6
        have hj := (List.getElem?_eq_some_iff.mp hx).1
        have zlen : zs.length = j := by
          rw [Paired.length hR6, List.length_map, List.length_take, ← Paired.length hR5]
          omega
        refine ⟨la, _, rfl, SqT.of g1, rfl, _, _, rfl, _, _, rfl, rfl, rfl, yes_lc ⟨_, rfl, _, hz, ?_, f6.lstw (.inl hD) hz, _, upd_same, ?_⟩⟩
        · exact Nat.lt_of_lt_of_le (by omega : zs.length < 100000) (by decide)
        · rw [take_snoc hp, List.map_append]
          have kp : ∀ b w, FzAt H6 b w → FzAt (upd H6 D (.lst (zs ++ [.ref pa]))) b w := fun b w ⟨o, u1, u2⟩ => ⟨o, u1, by rw [upd_ne (ne_of u2 hz (by intro z; cases z))]; exact u2⟩
          exact Paired.snoc ⟨pa, rfl, kp _ _ g2⟩ (hR6.fr kp)
      · rintro H6 ⟨f6, zs, hz, hR6⟩
        rw [show ws.length = (line c En c.sum).length from Paired.length hR5, List.take_length, every_line] at hR6
        exact k _ D zs (f5.trans f6) (f5.free hD) hz hR6
end
end K81
set_option maxHeartbeats 2000000
namespace K81
open PySem PySem.Spec PyProof.Rows L2 LamX K81M StX RZ
section
variable {P : Program} {w : World} {K : PySem.W.Frag} {mg : Str → Option Value} {base : Heap} {Tb : List (Addr × Str)} {f : Addr} {fd : FuncData}
theorem Fr.tr {T : List (Addr × Str)} {S : List Addr} {H H1 H' : Hp} (a : Fr T [] H H1) (b : Fr T S H1 H') : Fr T S H H' := a.mono.trans b
/-! ### _law_weaving -/
def spLWeav (Tb : List (Addr × Str)) : Sp := fun vs H Q _ => ∃ d l c, vs = [.ref d, .int 8] ∧ DrawAt H d l c ∧ ∀ H' p w, Fr Tb [d, l] H H' → DrawAt H' d l c → H p = none → H' p = some (.lst (nIs w)) → w.length ≤ 8 → (∀ t ∈ w, t < 4) → Q (.ref p) H'
theorem sc__law_weaving : FnScope ["_law_draw", "_law_most", "_law_threads_here", "_law_lap"] ["_law_draw", "_law_most"] (defScope (top 52)) := ⟨rfl, rfl, rfl, by decide +kernel, rfl, by decide +kernel, by decide +kernel⟩
theorem nIs_mem {v : V} {xs : List Nat} (h : v ∈ nIs xs) : ∃ t ∈ xs, v = nI t := by
  obtain ⟨t, ht, e⟩ := List.mem_map.mp h
  exact ⟨t, ht, e.symm⟩
theorem ok_law_weaving (F : Fun K "_law_weaving" "_law_weaving" (top 52) f fd) (T : Txt mg) (C__law_take : Cl P w K mg base CX0 2 "_law_take" (spTake Tb)) (C__law_pick : Cl P w K mg base CX0 3 "_law_pick" (spPick Tb)) (C__law_shuffled : Cl P w K mg base CX0 3 "_law_shuffled" (spShuffled Tb)) : FnOk P w K mg base CX0 4 f fd ["_law_draw", "_law_most"] (spLWeav Tb) := by
  refine F.ok sc__law_weaving (fun vs H Q E h => ?_) (fun cdv A outer s H vs Q E hr h => ?_)
  · obtain ⟨d, l, c, rfl, h⟩ := h
    rfl
  · obtain ⟨d, l, c, rfl, h⟩ := h
    refine ⟨_, 
      (pss_cons (ps_set (i := 2) sc__law_weaving.nd rfl (by first | exact Or.inl rfl | exact Or.inr rfl) (pe_slice (slL K) (cl0 C__law_shuffled hr (by decide) (by rfl) (pa_cons (pv 0) (pa_cons (pe_lst (pa_cons pe_int (pa_cons pe_int (pa_cons pe_int (pa_cons pe_int pa_nil))))) pa_nil))) po_none (po_some (pe_op op_add pe_int (cl0 C__law_take hr (by decide) (by rfl) (pa_cons (pv 0) (pa_cons pe_int pa_nil)))))))
      (pss_one (ps_ret (pe_lc (own := [("_law_lap", 3)]) (by rfl) sc__law_weaving.nd (pi_range1 (by rfl) T.f_range (pa_cons (cl0 C__law_take hr (by decide) (by rfl) (pa_cons (pv 0) (pa_cons (pe_op op_add (pv 1) pe_int) pa_nil))) pa_nil)) (blkOk_by (by kernel_rfl)) (fun _ _ _ _ _ => (pg_name (i := 3) sc__law_weaving.nd rfl (by first | exact Or.inl rfl | exact Or.inr rfl))) (fun _ _ _ _ _ => pts_nil) (fun _ _ _ _ _ => (cl0 C__law_pick hr (by decide) (by rfl) (pa_cons (pv 0) (pa_cons (pv 2) pa_nil))))))))
      , ?_⟩
    obtain ⟨hd, k⟩ := h
    refine ⟨_, rfl, by show 4 ≤ sizeLine; decide, fun a ha => ?_⟩
    have na := hd.new ha
    have f1 : Fr Tb [] H (upd H a (.lst [.int 0, .int 1, .int 2, .int 3])) := Fr.new ha
    have ha1 : upd H a (.lst [.int 0, .int 1, .int 2, .int 3]) a = some (.lst (nIs [0, 1, 2, 3])) := upd_same
    generalize upd H a (.lst [.int 0, .int 1, .int 2, .int 3]) = H1 at f1 ha1 ⊢
    have hd1 := hd.fr (S := []) f1
    refine ⟨d, l, c, a, _, rfl, hd1, ha1, na.1, by decide, fun H2 p ys f2 hd2 hp0 hp hperm => ?_⟩
    have np := hd1.new hp0
    delta tNoPart
    dsimp only
    refine ⟨_, rfl, d, l, c, 4, rfl, hd2, by decide, by decide, fun H3 v f3 hd3 hv => ⟨_, _, rfl, rfl, _, rfl, ?_⟩⟩
    have hp3 := f3.lst hp (by simp [np.1, np.2.1])
    have f03 : Fr Tb [d, l] H H3 := (f1.tr f2).trans f3
    refine ⟨p, _, rfl, SqL.of hp3, fun q hq => ?_⟩
    have e : cutV (nIs ys) none (some (1 + (v : Int))) = nIs (ys.take (v + 1)) := by
      have z := cutHi (xs := nIs ys) (t := v + 1)
      rw [show ((v + 1 : Nat) : Int) = 1 + (v : Int) by omega] at z
      rw [z]
      simp [nIs]
    rw [e]
    have nq := hd3.new hq
    have f4 : Fr Tb [d, l] H (upd H3 q (.lst (nIs (ys.take (v + 1))))) := f03.upd_new hq
    have hd4 : DrawAt (upd H3 q (.lst (nIs (ys.take (v + 1))))) d l c := hd3.put nq
    have hq4 : upd H3 q (.lst (nIs (ys.take (v + 1)))) q = some (.lst (nIs (ys.take (v + 1)))) := upd_same
    generalize upd H3 q (.lst (nIs (ys.take (v + 1)))) = H4 at f4 hd4 hq4
    have ylen : ys.length = 4 := hperm.length_eq
    have y4 : ∀ t ∈ ys.take (v + 1), t < 4 := fun t ht => by
      have z := hperm.mem_iff.mp (List.mem_of_mem_take ht)
      simp at z
      omega
    have tlen : 0 < (nIs (ys.take (v + 1))).length ∧ (nIs (ys.take (v + 1))).length ≤ 4 := by
      rw [List.length_map, List.length_take]
      omega
    refine ⟨_, rfl, _, rfl, _, _, rfl, rfl, d, l, c, 9, rfl, hd4, by decide, by decide, fun H5 n f5 hd5 hn => ?_⟩
    have f05 := f4.trans f5
    have hq5 := f5.lst hq4 (by simp [nq.1, nq.2.1])
    refine ⟨(n : Int), rfl, by omega, by omega, fun D hD => ?_⟩
    have nD := hd5.new hD
    have nqD : q ≠ D := ne_of_none hq5 hD
    refine lc_range (lo := 0) (n := n) (fun i H' => Fr Tb [d, l] H5 H' ∧ DrawAt H' d l c ∧ ∃ ws, H' D = some (.lst (nIs ws)) ∧ ws.length ≤ i ∧ ∀ t ∈ ws, t < 4) ⟨Fr.new hD, hd5.put nD, [], upd_same, Nat.le_refl _, by simp⟩ ?_ ?_
    · rintro i H' hi ⟨f6, hd6, ws, hD6, hwl, hw4⟩
      have hq6 := f6.lst hq5 (by simp [nq.1, nq.2.1])
      refine ⟨rfl, yes_lc ⟨_, rfl, _, rfl, d, l, c, q, _, rfl, hd6, hq6, nq.1, tlen.1, by omega, fun H7 x f7 hd7 hx => ?_⟩⟩
      obtain ⟨t, ht, rfl⟩ := nIs_mem hx
      have hD7 := f7.lst hD6 (by simp [nD.1, nD.2.1])
      refine ⟨_, hD7, ?_, (f6.trans f7).lstw (.inl hD) hD7, hd7.put nD, ws ++ [t], by rw [upd_same]; simp [nIs], by rw [List.length_append, List.length_singleton]; omega, fun u hu => ?_⟩
      · rw [List.length_map]
        exact Nat.lt_of_le_of_lt (by omega : ws.length ≤ 9) (by decide)
      · rcases List.mem_append.mp hu with h | h
        · exact hw4 u h
        · rw [List.mem_singleton.mp h]
          exact y4 t ht
    · rintro H' ⟨f6, hd6, ws, hD6, hwl, hw4⟩
      exact k H' D ws (f05.trans f6) hd6 (f05.free hD) hD6 (by omega) hw4
end
end K81
set_option maxHeartbeats 2000000
namespace K81
open PySem PySem.Spec PyProof.Rows L2 LamX K81M StX RZ
/-! ### a dict whose keys are entries -/
def enK (e : En) : NestedKey := .tup [.tup [.num (e.1.1 : Int), .num (e.1.2 : Int)], .tup [.num (e.2.1 : Int), .num (e.2.2 : Int)]]
theorem enK_inj {a b : En} (h : enK a = enK b) : a = b := by
  obtain ⟨⟨a1, a2⟩, a3, a4⟩ := a
  obtain ⟨⟨b1, b2⟩, b3, b4⟩ := b
  simp [enK] at h
  obtain ⟨⟨h1, h2⟩, h3, h4⟩ := h
  simp only [Prod.mk.injEq]
  omega
theorem enK_depth (e : En) : (enK e).depth ≤ 8 := by simp [enK, NestedKey.depth, NestedKey.depthAll]
def rowsN (L : List (En × Addr)) : List (NestedKey × Addr × Value) := L.map fun p => (enK p.1, p.2, Value.bool true)
def ND (P : Program) (w : World) (h : Heap) (a : Addr) (L : List (En × Addr)) : Prop := (a == sysModules) = false ∧ (L.map (·.1)).Nodup ∧ ∃ o es ep, h.get? a = some o ∧ o.ExactDict ∧ o.data = .dict es ep ∧ es.toList = (rowsN L).map (entryOfKey (nestedKind P w))
def NdO (P : Program) (w : World) (a : Addr) (L : List (En × Addr)) : HO := .ext fun h => ND P w h a L
theorem ndO_new {P : Program} {w : World} {H : Hp} {h : Heap} {a : Addr} {L : List (En × Addr)} (R : ND P w h a L) : ObjOk P w H h a (NdO P w a L) := by
  have ⟨n, nd, o, es, ep, ho, q⟩ := R
  refine ⟨R, ⟨o, ho⟩, fun h1 h2 p k => ?_⟩
  have ⟨n', nd', o', es', ep', ho', q'⟩ := p
  exact ⟨n', nd', o', es', ep', k o' ho', q'⟩
theorem nd_keys (L : List (En × Addr)) : (rowsN L).map (·.1) = (L.map (·.1)).map enK := by
  unfold rowsN
  rw [List.map_map, List.map_map]
  rfl
theorem nd_nodup {L : List (En × Addr)} : ((rowsN L).map (·.1)).Nodup ↔ (L.map (·.1)).Nodup := by
  rw [nd_keys]
  constructor
  · intro h
    rw [List.nodup_iff_pairwise_ne] at h ⊢
    rw [List.pairwise_map] at h
    exact h.imp fun h e => h (by rw [e])
  · intro h
    rw [List.nodup_iff_pairwise_ne] at h ⊢
    rw [List.pairwise_map]
    exact h.imp fun h e => h (enK_inj e)
section
variable {X : Cx} {pins : List (Addr × Obj)} {σ : L2.St} {H : Hp} {s : Shared}
theorem nm_is (I : Inv X pins σ H s) {a : Addr} {n : Nm} (h : NmAt H a n) : NestedIs s.heap (.tup [.num (n.1 : Int), .num (n.2 : Int)]) (.ref a) ∧ Reads s.heap (.ref a) (.tuple [.int (n.1 : Int), .int (n.2 : Int)]) [] := by
  obtain ⟨its, r, ⟨o, ho, hc, m, hd⟩, _⟩ := I.tuple (SqT.of (K := X.K) h)
  obtain ⟨u1, u2, rfl, ⟨t1, rfl⟩, ⟨t2, rfl⟩⟩ := vals2 r
  exact ⟨.tup ho hc hd (.cons (.int _ _) (.cons (.int _ _) .nil)), .tuple ho hc hd (.cons (.int _ _) (.cons (.int _ _) .nil))⟩
theorem en_is (I : Inv X pins σ H s) {a : Addr} {e : En} (h : EnAt H a e) : NestedIs s.heap (enK e) (.ref a) ∧ Reads s.heap (.ref a) (enD e) [] := by
  obtain ⟨p, q, h1, h2, h3⟩ := h
  obtain ⟨its, r, ⟨o, ho, hc, m, hd⟩, _⟩ := I.tuple (SqT.of (K := X.K) h1)
  obtain ⟨u1, u2, rfl, r1, r2⟩ := vals2 r
  cases r1
  cases r2
  exact ⟨.tup ho hc hd (.cons (nm_is I h2).1 (.cons (nm_is I h3).1 .nil)), .tuple ho hc hd (.cons (nm_is I h2).2 (.cons (nm_is I h3).2 .nil))⟩
theorem nd_full (I : Inv X pins σ H s) {a : Addr} {L : List (En × Addr)} (ha : H a = some (NdO X.prog X.w a L)) (hL : ∀ p ∈ L, EnAt H p.2 p.1) : (a == sysModules) = false ∧ s.heap.DictOfH (nestedKind X.prog X.w) a (rowsN L) := by
  obtain ⟨n, nd, o, es, ep, h1, h2, h3, h4⟩ := (show ObjOk X.prog X.w H s.heap a (NdO X.prog X.w a L) from I.hok a _ ha).1
  refine ⟨n, o, es, ep, h1, h2, h3, h4, fun x hx => ?_, nd_nodup.mpr nd⟩
  obtain ⟨p, hp, rfl⟩ := List.mem_map.mp hx
  exact ⟨(en_is I (hL p hp)).1, enK_depth _⟩
end
section
variable {X : Cx} {pos : Pos}
def tDNewN (P : Program) (w : World) : TE := fun _ H Q => ∀ p, H p = none → Q (.ref p) (upd H p (NdO P w p []))
theorem pe_dnewN : PE X (.Dict [] [] pos) (tDNewN X.prog X.w) := ⟨fun pins s σ H Q I h =>
  wpAny_Dict_empty ⟨.ref s.heap.objs.size, _, I.laid (a := s.heap.objs.size) (o := NdO X.prog X.w s.heap.objs.size []) (t' := s.toks) (fun _ _ q => Heap.get?_push_of_some _ q) (Nat.le_refl _)
    (ndO_new ⟨beq_eq_false_iff_ne.mpr (Ne.symm (Nat.ne_of_lt I.big)), List.nodup_nil, _, #[], 0, Heap.get?_push_size _ rfl, ⟨rfl, rfl, rfl⟩, rfl, rfl⟩), rfl, h _ (I.hok.fresh (Nat.le_refl _))⟩⟩
def rSetN (P : Program) (w : World) : V → V → V → Hp → (Hp → Prop) → Prop := fun o i v H Q => ∃ a L b e, o = .ref a ∧ i = .ref b ∧ v = .bl true ∧ H a = some (NdO P w a L) ∧ EnAt H b e ∧ (∀ p ∈ L, EnAt H p.2 p.1) ∧ L.length ≤ 1000 ∧
  ∀ L', (L' = L ∨ L' = L ++ [(e, b)]) → Q (upd H a (NdO P w a L'))
theorem set_nd (hu : X.A.units + 64 < cLine) : PSet X (rSetN X.prog X.w) := by
  intro pins s σ H o i v ov iv u Q I ro ri rv h
  obtain ⟨a, L, b, e, rfl, rfl, rfl, ha, he, hL, hlen, q⟩ := h
  cases ro
  cases ri
  cases rv
  obtain ⟨hs, hm⟩ := nd_full I ha hL
  refine wpAny_setItem_heap (knd := nestedKind X.prog X.w) (k := enK e) (xs := rowsN L) (show X.A.in1.units + 8 < cLine from by simp only [Around.in1_units]; omega) ⟨(en_is I he).1, enK_depth _⟩ hm (fun h' hm' sb => ?_) (by
    unfold rowsN
    rw [List.length_map]
    exact Nat.le_trans hlen (by decide))
  obtain ⟨L', hL', eL⟩ : ∃ L', (L' = L ∨ L' = L ++ [(e, b)]) ∧ storedH (rowsN L) (enK e) b (Value.bool true) = rowsN L' := by
    cases hk : atKey (rowsN L) (enK e) with
    | none =>
      refine ⟨_, .inr rfl, ?_⟩
      rw [storedH_new hk]
      simp [rowsN]
    | some p =>
      refine ⟨_, .inl rfl, ?_⟩
      rw [storedH_old hk]
      unfold rowsN
      rw [List.map_map]
      refine List.map_congr_left fun x _ => ?_
      show putAt _ _ (enK x.1, x.2, Value.bool true) = _
      unfold putAt
      split <;> rfl
  rw [eL] at hm'
  obtain ⟨o, es, ep, h1, h2, h3, h4, h5, h6⟩ := hm'
  refine ⟨upd H a (NdO X.prog X.w a L'), I.write (e := a) (by rw [ha]; trivial) (.inl rfl) (fun b u hb hu => (sb.2 b hb).trans hu) ⟨o, h1⟩ (ndO_new ⟨hs, nd_nodup.mp h6, o, es, ep, h1, h2, h3, h4⟩), q L' hL'⟩
end
/-! ### the order of entries -/
def lt4 (a b : En) : Prop := a.1.1 < b.1.1 ∨ (a.1.1 = b.1.1 ∧ (a.1.2 < b.1.2 ∨ (a.1.2 = b.1.2 ∧ (a.2.1 < b.2.1 ∨ (a.2.1 = b.2.1 ∧ a.2.2 < b.2.2)))))
instance (a b : En) : Decidable (lt4 a b) := by unfold lt4; infer_instance
theorem enD_lt (a b : En) : PySem.W.dataLt (enD a) (enD b) = decide (lt4 a b) := by
  unfold enD
  rw [PySem.W.dataLt_pair (by simp [PySem.W.alike, PySem.W.alikeAll]) (by simp [PySem.W.alike, PySem.W.alikeAll]), PySem.W.dataLt_ii, PySem.W.dataLt_ii]
  have e : ∀ x y x' y' : Int, PyData.eqv (.tuple [.int x, .int y]) (.tuple [.int x', .int y']) = decide (x = x' ∧ y = y') := fun x y x' y' => by
    simp [PyData.eqv, PyData.eqvAll]
    rfl
  rw [e, e]
  obtain ⟨⟨a1, a2⟩, a3, a4⟩ := a
  obtain ⟨⟨b1, b2⟩, b3, b4⟩ := b
  unfold lt4
  by_cases h1 : (a1 : Int) = b1 ∧ (a2 : Int) = b2
  · rw [decide_eq_true h1, if_pos rfl]
    by_cases h2 : (a3 : Int) = b3 ∧ (a4 : Int) = b4
    · rw [decide_eq_true h2, if_pos rfl]
      refine (decide_eq_false ?_).symm
      dsimp only
      omega
    · rw [decide_eq_false h2, if_neg (by decide)]
      refine decide_eq_decide.mpr ?_
      dsimp only
      omega
  · rw [decide_eq_false h1, if_neg (by decide)]
    refine decide_eq_decide.mpr ?_
    dsimp only
    omega
theorem ltE_iff (a b : En) : LtE a b ↔ lt4 a b := by
  unfold LtE
  rw [enD_lt]
  exact decide_eq_true_iff
/-! ### sorted(d) -/
theorem each_snd : ∀ L : List (En × Addr), PySem.W.EachIs (fun v (x : En × Addr) => v = Value.ref x.2) (L.map fun p => Value.ref p.2) L
  | [] => .nil
  | p :: L => .cons rfl (each_snd L)
theorem each_snd_back : ∀ {out : List Value} {bs : List (En × Addr)}, PySem.W.EachIs (fun v (x : En × Addr) => v = Value.ref x.2) out bs → out = bs.map fun x => Value.ref x.2
  | _, _, .nil => rfl
  | _, _, .cons h t => by
    rw [List.map_cons, ← each_snd_back t, h]
theorem each_of {R : Value → (En × Addr) → Prop} : ∀ {L : List (En × Addr)}, (∀ p ∈ L, R (.ref p.2) p) → PySem.W.EachIs R (L.map fun p => Value.ref p.2) L
  | [], _ => .nil
  | p :: L, h => .cons (h p List.mem_cons_self) (each_of fun q hq => h q (List.mem_cons_of_mem _ hq))
theorem vals_snd : ∀ L : List (En × Addr), Vals (L.map fun p => V.ref p.2) (L.map fun p => Value.ref p.2)
  | [] => .nil
  | _ :: L => .cons rfl (vals_snd L)
section
variable {X : Cx}
def rSortedN (P : Program) (w : World) : List V → Hp → VK → Prop := fun vs H Q => ∃ (a : Addr) (L : List (En × Addr)), vs = [.ref a] ∧ H a = some (NdO P w a L) ∧ (∀ p ∈ L, EnAt H p.2 p.1) ∧ L.length ≤ 1000 ∧
  ∀ (L' : List (En × Addr)) (p : Addr), L'.Perm L → L'.Pairwise (fun x y => LtE x.1 y.1) → H p = none → Q (.ref p) (upd H p (.lst (L'.map fun q => V.ref q.2)))
theorem cr_sortedN (hcalm : X.calm = true) (hu : X.A.units + 64 < cLine) : CallR X (.builtin "sorted") (rSortedN X.prog X.w) := by
  intro pins s σ H xs us Q I r h
  obtain ⟨a, L, rfl, ha, hL, hlen, q⟩ := h
  obtain ⟨u, rfl, rx⟩ := vals1 r
  cases rx
  obtain ⟨hs, nd, o, es, ep, ho, hx, hdt, he⟩ := (show ObjOk X.prog X.w H s.heap a (NdO X.prog X.w a L) from I.hok a _ ha).1
  have l1 : es.size = L.length := by
    rw [size_of_entries he]
    unfold rowsN
    rw [List.length_map]
  refine Calls.call_function_entry PyProof.Rows.kind_sorted PyProof.Rows.plain_sorted PyProof.Rows.entry_sorted (PyProof.Rows.args_sorted1 _) ?_
  unfold Builtin.«sorted»
  refine wpAny_bind (m := checkCount "sorted" 1 1 _) (wpAny_pure ?_)
  have hsz : es.size ≤ sizeLine := by
    rw [l1]
    exact Nat.le_trans hlen (by decide)
  refine wpAny_bind (PySem.W.kdu_collect (A := X.A.in1) (kdl_raw hs hx hdt) (I.ok.hd hcalm) ho hsz fun h' tk acc hk it => ?_)
  have ea : acc.toList = L.map fun p => Value.ref p.2 := by
    have hl : acc.toList.length = L.length := by rw [Array.length_toList, it.1]; exact l1
    apply List.ext_getElem?
    intro j
    rw [List.getElem?_map]
    cases hj : acc.toList[j]? with
    | none =>
      have h1 := List.getElem?_eq_none_iff.mp hj
      rw [List.getElem?_eq_none (by omega)]
      rfl
    | some v =>
      obtain ⟨en, hen, hv⟩ := it.2 j v (by rw [← Array.getElem?_toList]; exact hj)
      have qe := entry_at he j
      rw [hen] at qe
      unfold rowsN at qe
      rw [List.getElem?_map] at qe
      cases hb : L[j]? with
      | none =>
        rw [hb] at qe
        exact nomatch (show some en = none from qe)
      | some b =>
        rw [hb] at qe
        have e2 : en = entryOfKey (nestedKind X.prog X.w) (enK b.1, b.2, Value.bool true) := Option.some.inj qe
        rw [hv, e2]
        rfl
  have I1 : Inv X pins σ H { s with heap := h', toks := tk } := I.kept hk
  have alen : acc.toList.length ≤ sizeLine := by
    rw [ea, List.length_map]
    exact Nat.le_trans hlen (by decide)
  refine wpAny_bind (wpAny_newList ?_ alen)
  rw [ea]
  have hoL : (h'.push (seqObj "list" (L.map fun p => Value.ref p.2).toArray 0)).get? h'.objs.size = some (seqObj "list" (L.map fun p => Value.ref p.2).toArray 0) := Heap.get?_push_size _ rfl
  show wpAny _ _ _ _ _ { s with heap := h'.push (seqObj "list" (L.map fun p => Value.ref p.2).toArray 0), toks := tk }
  have hb2 : ∀ b u, h'.get? b = some u → (h'.push (seqObj "list" (L.map fun p => Value.ref p.2).toArray 0)).get? b = some u := fun b u e => Heap.get?_push_of_some _ e
  refine wpAny_bind (wpAny_holding (PySem.W.list_sort_data (s := { s with heap := h'.push (seqObj "list" (L.map fun p => Value.ref p.2).toArray 0), toks := tk }) (bs := L) (enc := fun p : En × Addr => enD p.1) (R := fun v (x : En × Addr) => v = Value.ref x.2) hoL (each_snd L)
    (each_of fun p hp => ⟨[], PyProof.Rows.Reads.keeps hb2 (en_is I1 (hL p hp)).2, by simp⟩) (PySem.W.AllAlike.of fun _ _ => enD_alike _ _) (PySem.W.Sortable.tuples fun b => ⟨_, _, rfl⟩) (Nat.le_trans hlen (by decide)) (fun b _ => ?_) fun out hol hout => ?_))
  · have z := enD_depth b.1
    show X.A.in1.units + 1 + _ < _
    have z2 : (enD b.1).depth = 2 := by simp [enD, PyData.depth, PyData.depthAll]
    simp only [Around.in1_units]
    omega
  · have eo := each_snd_back hout
    have perm := List.mergeSort_perm L (PySem.W.dataLe false fun p : En × Addr => enD p.1)
    have le_eq : PySem.W.dataLe false (fun p : En × Addr => enD p.1) = fun a b => !decide (lt4 b.1 a.1) := by
      rw [PySem.W.dataLe_eq]
      funext a b
      show (!PySem.W.dataLt (enD b.1) (enD a.1)) = _
      rw [enD_lt]
    have srt := List.pairwise_mergeSort (le := fun a b : En × Addr => !decide (lt4 b.1 a.1)) (fun a b c h1 h2 => by
      simp only [Bool.not_eq_true', decide_eq_false_iff_not] at h1 h2 ⊢
      unfold lt4 at h1 h2 ⊢
      omega) (fun a b => by
      simp only [Bool.or_eq_true, Bool.not_eq_true', decide_eq_false_iff_not]
      unfold lt4
      omega) L
    rw [← le_eq] at srt
    rw [le_eq] at srt
    rw [le_eq] at perm eo
    generalize L.mergeSort (fun a b : En × Addr => !decide (lt4 b.1 a.1)) = ms at eo perm srt
    subst eo
    obtain ⟨e', he'⟩ := PyProof.Rows.sortedHeap_at (vs := L.map fun p => Value.ref p.2) (out := (ms.map fun x => Value.ref x.2).toArray) hoL
    have ndm : (ms.map (·.1)).Nodup := (perm.map (·.1)).nodup_iff.mpr nd
    have strict : ms.Pairwise (fun x y => LtE x.1 y.1) := by
      rw [List.nodup_iff_pairwise_ne, List.pairwise_map] at ndm
      refine (srt.and ndm).imp fun {x y} hxy => ?_
      obtain ⟨h1, h2⟩ := hxy
      simp only [Bool.not_eq_true', decide_eq_false_iff_not] at h1
      rw [ltE_iff]
      have h3 : ¬ (x.1.1.1 = y.1.1.1 ∧ x.1.1.2 = y.1.1.2 ∧ x.1.2.1 = y.1.2.1 ∧ x.1.2.2 = y.1.2.2) := fun z => h2 (Prod.ext (Prod.ext z.1 z.2.1) (Prod.ext z.2.2.1 z.2.2.2))
      unfold lt4 at h1 ⊢
      omega
    refine wpAny_pure ⟨_, rfl, .ref h'.objs.size, upd H h'.objs.size (.lst (ms.map fun q => V.ref q.2)), I1.laid (t' := tk) (fun b u e => ?_) (Nat.le_refl _)
      (show ObjOk X.prog X.w _ _ _ (.lst (ms.map fun q => V.ref q.2)) from ⟨?_, ms.map fun q => Value.ref q.2, e', vals_snd ms, he'⟩), rfl, q ms _ perm strict (I1.hok.fresh (Nat.le_refl _))⟩
    · have hb : b < h'.objs.size := Heap.lt_size e
      rw [PyProof.Rows.sortedHeap_old (Nat.ne_of_lt hb) (by rw [size_push']; exact Nat.lt_succ_of_lt hb)]
      exact Heap.get?_push_of_some _ e
    · rw [List.length_map, perm.length_eq]
      exact Nat.le_trans hlen (by decide)
end
section
variable {X : Cx} {P : Program} {w : World} {K : PySem.W.Frag} {pos : Pos}
theorem peDnewN (P : Program) (w : World) (h1 : X.prog = P := by rfl) (h2 : X.w = w := by rfl) : PE X (.Dict [] [] pos) (tDNewN P w) := h1 ▸ h2 ▸ pe_dnewN
theorem setNd (P : Program) (w : World) (hu : X.A.units + 64 < cLine) (h1 : X.prog = P := by rfl) (h2 : X.w = w := by rfl) : PSet X (rSetN P w) := h1 ▸ h2 ▸ set_nd hu
theorem crSortedN (P : Program) (w : World) (hc : X.calm = true) (hu : X.A.units + 64 < cLine) (h1 : X.prog = P := by rfl) (h2 : X.w = w := by rfl) : CallR X (.builtin "sorted") (rSortedN P w) := h1 ▸ h2 ▸ cr_sortedN hc hu
theorem crSorted (h : X.K = K := by rfl) : CallR X (.builtin "sorted") (rSorted K) := h ▸ cr_sorted
end
end K81
set_option maxHeartbeats 2000000
namespace K81
open PySem PySem.Spec PyProof.Rows L2 LamX K81M StX RZ
theorem ndO_code {P : Program} {w : World} {a : Addr} {L : List (En × Addr)} {q : Str} : NdO P w a L ≠ CodeO a q := by
  intro z
  injection z with z
  have hg : ({ objs := Array.replicate (a + 1) (⟨.type "code", none, .fields #[.none, .str q default], #[]⟩ : Obj) } : Heap).get? a = some ⟨.type "code", none, .fields #[.none, .str q default], #[]⟩ := by
    unfold Heap.get?
    have e : (Array.replicate (a + 1) (⟨.type "code", none, .fields #[.none, .str q default], #[]⟩ : Obj))[a]? = some ⟨.type "code", none, .fields #[.none, .str q default], #[]⟩ := by simp
    rw [e]
  have h2 := congrFun z { objs := Array.replicate (a + 1) (⟨.type "code", none, .fields #[.none, .str q default], #[]⟩ : Obj) }
  have h3 : ND P w { objs := Array.replicate (a + 1) (⟨.type "code", none, .fields #[.none, .str q default], #[]⟩ : Obj) } a L := by
    rw [h2]
    exact ⟨_, _, default, hg, rfl, rfl⟩
  obtain ⟨_, _, o, es, ep, h4, _, h5, _⟩ := h3
  rw [hg] at h4
  cases h4
  cases h5
theorem ndO_tup {P : Program} {w : World} {a : Addr} {L : List (En × Addr)} {xs : List V} : HO.tup xs ≠ NdO P w a L := fun z => nomatch (show HO.tup xs = HO.ext _ from z)
theorem ndO_lst {P : Program} {w : World} {a : Addr} {L : List (En × Addr)} {xs : List V} : HO.lst xs ≠ NdO P w a L := fun z => nomatch (show HO.lst xs = HO.ext _ from z)
theorem ndO_dK {P : Program} {w : World} {a : Addr} {L : List (En × Addr)} {xs : List (Key × V)} : HO.dK xs ≠ NdO P w a L := fun z => nomatch (show HO.dK xs = HO.ext _ from z)
theorem Fr.ndw {P : Program} {w : World} {T : List (Addr × Str)} {S : List Addr} {H H' : Hp} {p : Addr} {o : HO} {L : List (En × Addr)} (f : Fr T S H H') (hn : H p = none ∨ p ∈ S) (he : H' p = some (NdO P w p L)) : Fr T S H (upd H' p o) :=
  f.write hn (by rw [he]; simp) (fun _ z => by rw [he] at z; exact ndO_tup (Option.some.inj z).symm) (fun _ z => by rw [he] at z; exact nomatch (show HO.ext _ = HO.tbl _ from Option.some.inj z)) (fun _ z => by rw [he] at z; exact ndO_code (Option.some.inj z))
theorem EnAt.ndw {P : Program} {w : World} {H : Hp} {p b : Addr} {o : HO} {e : En} {L : List (En × Addr)} (h : EnAt H b e) (he : H p = some (NdO P w p L)) : EnAt (upd H p o) b e := by
  obtain ⟨x, y, h1, h2, h3⟩ := h
  unfold NmAt at h2 h3
  refine ⟨x, y, by rw [upd_ne (ne_of h1 he ndO_tup)]; exact h1, ?_, ?_⟩
  · show upd H p o x = _
    rw [upd_ne (ne_of h2 he ndO_tup)]
    exact h2
  · show upd H p o y = _
    rw [upd_ne (ne_of h3 he ndO_tup)]
    exact h3
theorem counts_sum : ∀ w : List Nat, (∀ t ∈ w, t < 4) → (countsOf w).sum = w.length
  | [], _ => rfl
  | t :: w, h => by
    have ih := counts_sum w fun u hu => h u (List.mem_cons_of_mem _ hu)
    unfold countsOf at ih ⊢
    simp only [List.sum_cons, List.sum_nil, List.count_cons, List.length_cons] at ih ⊢
    rcases K81M.lt4 (h t List.mem_cons_self) with rfl | rfl | rfl | rfl <;> simp <;> omega
theorem refs_map {L : List (En × Addr)} {H : Hp} (h : ∀ p ∈ L, EnAt H p.2 p.1) : Refs EnAt H (L.map fun q => V.ref q.2) (L.map (·.1)) := by
  induction L with
  | nil => exact .nil
  | cons p L ih => exact .cons ⟨p.2, rfl, h p List.mem_cons_self⟩ (ih fun q hq => h q (List.mem_cons_of_mem _ hq))
/-- an entry between two steps of the weaving -/
def InW (w : List Nat) (e : En) : Prop := e.1.1 ≠ e.2.1 ∧ ∃ i j : Nat, i < j ∧ (names w)[i]? = some e.1 ∧ (names w)[j]? = some e.2
theorem ledOk_of {w : List Nat} {L : List (En × Addr)} (hw : ∀ t ∈ w, t < 4) (h8 : w.length ≤ 8) (hL : ∀ p ∈ L, InW w p.1) (hs : L.Pairwise fun x y => LtE x.1 y.1) (hl : L.length ≤ 1000) : LedOk (countsOf w) (L.map (·.1)) := by
  have hmem : ∀ e ∈ L.map (·.1), InW w e := fun e he => by
    obtain ⟨p, hp, rfl⟩ := List.mem_map.mp he
    exact hL p hp
  have nm : ∀ n ∈ names w, n.1 < 4 ∧ n.2 < at0 (countsOf w) n.1 := fun n hn => by
    obtain ⟨h1, h2, h3⟩ := namesF_ge (d := zero4) rfl hw n hn
    rw [at0_zero] at h3
    rw [at0_counts h1]
    exact ⟨h1, by omega⟩
  refine ⟨rfl, fun n hn => ?_, fun e he => ?_, fun e he => (hmem e he).1, fun i a b ha hb => ?_, ⟨rfl, w, (good_of hw fun e he => (hmem e he).2).2⟩, by rw [List.length_map]; exact hl⟩
  · have z : ∀ t, w.count t ≤ 8 := fun t => Nat.le_trans List.count_le_length h8
    simp only [countsOf, List.mem_cons, List.not_mem_nil, or_false] at hn
    rcases hn with rfl | rfl | rfl | rfl <;> exact Nat.le_trans (z _) (by decide)
  · obtain ⟨_, i, j, _, h1, h2⟩ := hmem e he
    exact ⟨nm _ (List.mem_of_getElem? h1), nm _ (List.mem_of_getElem? h2)⟩
  · rw [List.getElem?_map] at ha hb
    obtain ⟨x, hx, rfl⟩ := Option.map_eq_some_iff.mp ha
    obtain ⟨y, hy, rfl⟩ := Option.map_eq_some_iff.mp hb
    obtain ⟨hi, rfl⟩ := List.getElem?_eq_some_iff.mp hx
    obtain ⟨hj, rfl⟩ := List.getElem?_eq_some_iff.mp hy
    exact List.pairwise_iff_getElem.mp hs i (i + 1) hi hj (by omega)
section
variable {P : Program} {w : World} {K : PySem.W.Frag} {mg : Str → Option Value} {base : Heap} {Tb : List (Addr × Str)} {f : Addr} {fd : FuncData}
theorem ifTake {H : Hp} {Q : VK} {σ : L2.St} {d l c : Addr} {m : Nat} {t : TT} {E : XK} (hσ : σ[0]? = some (some (.ref d))) (hd : DrawAt H d l c) (ht : ∀ Qt : Bool → Hp → Prop, Qt (decide (1 < m)) H → t σ H Qt)
    (q : ∀ H' n, Fr Tb [d, l] H H' → DrawAt H' d l c → n ≤ 8 → (n = 0 ∨ 1 < m) → Q (nI n) H') : tIf t (tCl (spTake Tb) E (tCons (tVar 0) (tCons (tC (.int 9)) tNil))) (tC (.int 0)) σ H Q := by
  refine ht _ ?_
  by_cases h : 1 < m
  · rw [decide_eq_true h]
    exact iteT ⟨_, hσ, d, l, c, 9, rfl, hd, by decide, by decide, fun H' v f1 hd1 hv => q H' v f1 hd1 (by omega) (.inr h)⟩
  · rw [decide_eq_false h]
    exact iteF (q H 0 .refl hd (by omega) (.inl rfl))
theorem forTake {H : Hp} {σ : L2.St} {d l c : Addr} {m : Nat} {t : TT} {E : XK} {g : TG} {tb : TS} {D : Ends} (hσ : σ[0]? = some (some (.ref d))) (hd : DrawAt H d l c) (ht : ∀ Qt : Bool → Hp → Prop, Qt (decide (1 < m)) H → t σ H Qt)
    (q : ∀ H' n, Fr Tb [d, l] H H' → DrawAt H' d l c → n ≤ 8 → (n = 0 ∨ 1 < m) → tFor (iRng1 fun _ H Q => Q [nI n] H) g tb D σ H') : tFor (iRng1 (tCons (tIf t (tCl (spTake Tb) E (tCons (tVar 0) (tCons (tC (.int 9)) tNil))) (tC (.int 0))) tNil)) g tb D σ H :=
  ifTake (Tb := Tb) (m := m) hσ hd ht fun H' n f1 hd1 h8 hn => q H' n f1 hd1 h8 hn
/-! ### _law_ledger -/
def spLLed (Tb : List (Addr × Str)) : Sp := fun vs H Q _ => ∃ d l cc, vs = [.ref d, .int 8] ∧ DrawAt H d l cc ∧ ∀ H' p c E, Fr Tb [d, l] H H' → DrawAt H' d l cc → LedAt H' p c E → LedOk c E → c.sum ≤ 8 → Q (.ref p) H'
theorem sc__law_ledger : FnScope ["_law_draw", "_law_most", "_law_weaving_here", "_law_found", "_law_names_here", "_law_lap", "_law_i", "_law_j"] ["_law_draw", "_law_most"] (defScope (top 53)) := ⟨rfl, rfl, rfl, by decide +kernel, rfl, by decide +kernel, by decide +kernel⟩
theorem ok_law_ledger (F : Fun K "_law_ledger" "_law_ledger" (top 53) f fd) (T : Txt mg) (C__law_take : Cl P w K mg base CX0 2 "_law_take" (spTake Tb)) (C__law_weaving : Cl P w K mg base CX0 4 "_law_weaving" (spLWeav Tb)) (C__law_names : Cl P w K mg base CX0 1 "_law_names" (spLNames Tb)) (C__law_counts : Cl P w K mg base CX0 1 "_law_counts" (spLCounts Tb)) : FnOk P w K mg base CX0 5 f fd ["_law_draw", "_law_most"] (spLLed Tb) := by
  refine F.ok sc__law_ledger (fun vs H Q E h => ?_) (fun cdv A outer s H vs Q E hr h => ?_)
  · obtain ⟨d, l, c, rfl, h⟩ := h
    rfl
  · obtain ⟨d, l, c, rfl, h⟩ := h
    refine ⟨_, 
      (pss_cons (ps_par (i := 2) (j := 3) (by rfl) sc__law_ledger.nd rfl rfl (by decide) rfl rfl (pa_cons (cl0 C__law_weaving hr (by decide) (by rfl) (pa_cons (pv 0) (pa_cons (pv 1) pa_nil))) (pa_cons (peDnewN P w) pa_nil)) (by rfl))
      (pss_cons (ps_set (i := 4) sc__law_ledger.nd rfl (by first | exact Or.inl rfl | exact Or.inr rfl) (cl0 C__law_names hr (by decide) (by rfl) (pa_cons (pv 2) pa_nil)))
      (pss_cons (ps_for PassesOwn.never rfl (pi_range1 (by rfl) T.f_range (pa_cons (pe_ifExp (pt_cmpR op_gt (pe_callB (crLen K) (by rfl) T.f_len PySem.boot_len (pa_cons (pv 4) pa_nil)) pe_int (nomark _)) (cl0 C__law_take hr (by decide) (by rfl) (pa_cons (pv 0) (pa_cons pe_int pa_nil))) pe_int) pa_nil)) (pg_name (i := 5) sc__law_ledger.nd rfl (by first | exact Or.inl rfl | exact Or.inr rfl))
      (pss_cons (ps_asg (pe_callB (crSorted (K := K)) (by rfl) T.f_sorted (by decide +kernel) (pa_cons (pe_lst (pa_cons (cl0 C__law_take hr (by decide) (by rfl) (pa_cons (pv 0) (pa_cons (pe_callB (crLen K) (by rfl) T.f_len PySem.boot_len (pa_cons (pv 4) pa_nil)) pa_nil))) (pa_cons (cl0 C__law_take hr (by decide) (by rfl) (pa_cons (pv 0) (pa_cons (pe_callB (crLen K) (by rfl) T.f_len PySem.boot_len (pa_cons (pv 4) pa_nil)) pa_nil))) pa_nil))) pa_nil)) (pgU (n := 2) K (by rfl) (pgs_cons (pg_name (i := 6) sc__law_ledger.nd rfl (by first | exact Or.inl rfl | exact Or.inr rfl)) (pgs_cons (pg_name (i := 7) sc__law_ledger.nd rfl (by first | exact Or.inl rfl | exact Or.inr rfl)) pgs_nil))))
      (pss_one (ps_if (pt_cmpR op_ne (pe_ix (ixT K) (pe_ix (ixL K) (pv 4) (pv 6) (fun _ _ => rfl)) pe_int (fun _ _ => rfl)) (pe_ix (ixT K) (pe_ix (ixL K) (pv 4) (pv 7) (fun _ _ => rfl)) pe_int (fun _ _ => rfl)) (nomark _))
      (pss_one (ps_asg pe_bl (pg_sub (pv 3) (pe_tup (pa_cons (pe_ix (ixL K) (pv 4) (pv 6) (fun _ _ => rfl)) (pa_cons (pe_ix (ixL K) (pv 4) (pv 7) (fun _ _ => rfl)) pa_nil))) (setNd P w hr.units)))) pss_nil))))
      (pss_one (ps_ret (pe_tup (pa_cons (cl0 C__law_counts hr (by decide) (by rfl) (pa_cons (pv 2) pa_nil)) (pa_cons (pe_callTy (crTupOf K) (by rfl) T.f_tuple (by decide +kernel) (pa_cons (pe_callB (crSortedN P w rfl hr.units) (by rfl) T.f_sorted (by decide +kernel) (pa_cons (pv 3) pa_nil)) pa_nil)) pa_nil))))))))
      , ?_⟩
    obtain ⟨hd, k⟩ := h
    refine ⟨_, rfl, _, rfl, d, l, c, rfl, hd, fun H1 wp wv f1 hd1 hwp0 hwp w8 w4 => ?_⟩
    intro fp hfp
    refine ⟨_, _, rfl, ?_⟩
    have nf := hd1.new hfp
    have f2 : Fr Tb [] H1 (upd H1 fp (NdO P w fp [])) := Fr.new hfp
    have hf2 : upd H1 fp (NdO P w fp []) fp = some (NdO P w fp []) := upd_same
    have hfp0 := f1.free hfp
    show tSeq _ _ _ _ (upd H1 fp (NdO P w fp []))
    generalize upd H1 fp (NdO P w fp []) = H2 at f2 hf2
    have hd2 := hd1.fr (S := []) f2
    have hwp2 := f2.lst0 hwp
    refine ⟨_, rfl, wp, wv, rfl, hwp2, by omega, w4, fun H3 np vs f3 hnp0 hnp hR => ?_⟩
    have hd3 := hd2.fr (S := []) f3
    have hwp3 := f3.lst0 hwp2
    have hf3 := f3.ext _ _ hf2 (by simp) fun _ z => nomatch (show HO.ext _ = HO.tbl _ from z)
    have f03 : Fr Tb [d, l] H H3 := f1.trans (f2.mono.trans f3.mono)
    have nw := hd.new hwp0
    have nn := hd2.new hnp0
    have vlen : vs.length = wv.length := by
      rw [Paired.length hR]
      exact namesF_length
    dsimp only [gName]
    show tSeq _ _ _ [some (.ref d), some (.int 8), some (.ref wp), some (.ref fp), some (.ref np), none, none, none] H3
    refine forTake (Tb := Tb) (m := vs.length) (σ := [some (.ref d), some (.int 8), some (.ref wp), some (.ref fp), some (.ref np), none, none, none]) rfl hd3 (fun Qt q => ?_) fun H4 n f4 hd4 hn8 hn => ?_
    · refine ⟨_, rfl, np, vs, rfl, .inl (SqL.of hnp), _, _, rfl, rfl, _, rfl, ?_⟩
      rw [show decide ((1 : Int) < (vs.length : Int)) = decide (1 < vs.length) from decide_eq_decide.mpr (by omega)]
      exact q
    have hwp4 := f4.lst hwp3 (by simp [nw.1, nw.2.1])
    have hnp4 := f4.lst hnp (by simp [nn.1, nn.2.1])
    have hf4 := f4.ext _ _ hf3 (by simp [nf.1, nf.2.1]) fun _ z => nomatch (show HO.ext _ = HO.tbl _ from z)
    have nmkeep : ∀ {H' H'' : Hp}, Fr Tb [d, l] H' H'' → DrawAt H' d l c → ∀ b (m : Nm), NmAt H' b m → NmAt H'' b m := fun f hd b m q => by
      obtain ⟨r, t, ls, zs, g1, g2, g3, g4⟩ := hd
      exact f.tup q (by simp [ne_of q g1 (by intro z; cases z), ne_of q g2 (by intro z; cases z)])
    have enkeep : ∀ {H' H'' : Hp}, Fr Tb [d, l] H' H'' → DrawAt H' d l c → ∀ b (m : En), EnAt H' b m → EnAt H'' b m := fun f hd b m q => by
      have hd' := hd
      obtain ⟨r, t, ls, zs, g1, g2, g3, g4⟩ := hd
      obtain ⟨x, y, q1, q2, q3⟩ := q
      exact ⟨x, y, f.tup q1 (by simp [ne_of q1 g1 (by intro z; cases z), ne_of q1 g2 (by intro z; cases z)]), nmkeep f hd' _ _ q2, nmkeep f hd' _ _ q3⟩
    have hR4 := hR.fr (nmkeep f4 hd3)
    have f04 := f03.trans f4
    refine ⟨(n : Int), rfl, by omega, by omega, for_range (lo := 0) (n := n) (fun i σ H' => ∃ L x5 x6 x7, σ = [some (.ref d), some (.int 8), some (.ref wp), some (.ref fp), some (.ref np), x5, x6, x7] ∧ Fr Tb [d, l] H H' ∧ DrawAt H' d l c ∧ H' wp = some (.lst (nIs wv)) ∧ H' np = some (.lst vs) ∧ Refs NmAt H' vs (names wv) ∧
      H' fp = some (NdO P w fp L) ∧ (∀ p ∈ L, EnAt H' p.2 p.1) ∧ L.length ≤ i ∧ ∀ p ∈ L, InW wv p.1) ⟨[], none, none, none, rfl, f04, hd4, hwp4, hnp4, hR4, hf4, by simp, Nat.le_refl _, by simp⟩ ?_ ?_⟩
    · rintro i σ H5 hi ⟨L, x5, x6, x7, rfl, f5, hd5, hwp5, hnp5, hR5, hf5, hL5, hLl, hLw⟩
      have m1 : 1 < vs.length := by
        rcases hn with h | h
        · omega
        · exact h
      have m8 : vs.length ≤ 8 := by omega
      -- the two draws
      refine ⟨_, rfl, _, rfl, np, vs, rfl, .inl (SqL.of hnp5), d, l, c, (vs.length : Int), rfl, hd5, by omega, by omega, fun H6 v1 f6 hd6 hv1 => ?_⟩
      have hnp6 := f6.lst hnp5 (by simp [nn.1, nn.2.1])
      refine ⟨_, rfl, _, rfl, np, vs, rfl, .inl (SqL.of hnp6), d, l, c, (vs.length : Int), rfl, hd6, by omega, by omega, fun H7 v2 f7 hd7 hv2 => ?_⟩
      have f57 : Fr Tb [d, l] H5 H7 := f6.trans f7
      have hnp7 := f57.lst hnp5 (by simp [nn.1, nn.2.1])
      refine ⟨by show 2 ≤ sizeLine; decide, fun lp hlp => ?_⟩
      have f8 : Fr Tb [] H7 (upd H7 lp (.lst [nI v1, nI v2])) := Fr.new hlp
      have hl8 : upd H7 lp (.lst [nI v1, nI v2]) lp = some (.lst [nI v1, nI v2]) := upd_same
      generalize upd H7 lp (.lst [nI v1, nI v2]) = H8 at f8 hl8 ⊢
      refine ⟨lp, [(v1 : Int), (v2 : Int)], rfl, SqL.of hl8, (by show 2 < 64; decide), fun ns sp perm srt hsp => ?_⟩
      have f9 : Fr Tb [] H8 (upd H8 sp (.lst (ns.map V.int))) := Fr.new hsp
      have hs9 : upd H8 sp (.lst (ns.map V.int)) sp = some (.lst (ns.map V.int)) := upd_same
      generalize upd H8 sp (.lst (ns.map V.int)) = H9 at f9 hs9 ⊢
      obtain ⟨x, y, rfl, hxy, hy⟩ : ∃ x y : Nat, ns = [(x : Int), (y : Int)] ∧ x ≤ y ∧ y < vs.length := by
        have hl := perm.length_eq
        obtain ⟨a1, b1, rfl⟩ : ∃ a1 b1, ns = [a1, b1] := by
          match ns, hl with
          | [a1, b1], _ => exact ⟨a1, b1, rfl⟩
        have ha := perm.mem_iff.mp (show a1 ∈ [a1, b1] by simp)
        have hb := perm.mem_iff.mp (show b1 ∈ [a1, b1] by simp)
        have hab : a1 ≤ b1 := by simpa using srt
        simp only [List.mem_cons, List.not_mem_nil, or_false] at ha hb
        exact ⟨a1.toNat, b1.toNat, by rw [Int.toNat_of_nonneg (by omega), Int.toNat_of_nonneg (by omega)], by omega, by omega⟩
      refine ⟨sp, _, rfl, SqL.of hs9, rfl, _, _, rfl, _, _, rfl, rfl, ?_⟩
      have f59 : Fr Tb [d, l] H5 H9 := f57.trans (f8.mono.trans f9.mono)
      have hnp9 := f59.lst hnp5 (by simp [nn.1, nn.2.1])
      have hwp9 := f59.lst hwp5 (by simp [nw.1, nw.2.1])
      have hf9 := f59.ext _ _ hf5 (by simp [nf.1, nf.2.1]) fun _ z => nomatch (show HO.ext _ = HO.tbl _ from z)
      have hd9 : DrawAt H9 d l c := hd7.fr (S := []) (f8.trans f9)
      have hR9 := hR5.fr (nmkeep f59 hd5)
      have hL9 : ∀ p ∈ L, EnAt H9 p.2 p.1 := fun p hp => enkeep f59 hd5 _ _ (hL5 p hp)
      have f09 := f5.trans f59
      obtain ⟨n1, hn1, p1, ep1, hp1⟩ := Paired.at hR9 (List.getElem?_eq_getElem (show x < vs.length by omega))
      obtain ⟨n2, hn2, p2, ep2, hp2⟩ := Paired.at hR9 (List.getElem?_eq_getElem (show y < vs.length by omega))
      have ix1 : vs[x]? = some (.ref p1) := by rw [List.getElem?_eq_getElem (by omega), ep1]
      have ix2 : vs[y]? = some (.ref p2) := by rw [List.getElem?_eq_getElem (by omega), ep2]
      refine ⟨_, rfl, _, rfl, np, vs, _, _, rfl, rfl, SqL.of hnp9, atI_nat ix1, p1, _, 0, _, rfl, rfl, SqT.of hp1, rfl, _, rfl, _, rfl, np, vs, _, _, rfl, rfl, SqL.of hnp9, atI_nat ix2, p2, _, 0, _, rfl, rfl, SqT.of hp2, rfl, rfl, _, rfl, ?_⟩
      have ee : (!decide (nI n1.1 = nI n2.1)) = !decide (n1.1 = n2.1) := by
        congr 1
        refine decide_eq_decide.mpr ⟨fun z => ?_, fun z => by rw [z]⟩
        injection z with z
        omega
      rw [ee]
      by_cases hne : n1.1 = n2.1
      · rw [decide_eq_true hne]
        exact iteF ⟨L, _, _, _, rfl, f09, hd9, hwp9, hnp9, hR9, hf9, hL9, by omega, hLw⟩
      · rw [decide_eq_false hne]
        refine iteT ⟨_, rfl, _, rfl, _, rfl, np, vs, _, _, rfl, rfl, SqL.of hnp9, atI_nat ix1, _, rfl, _, rfl, np, vs, _, _, rfl, rfl, SqL.of hnp9, atI_nat ix2, by show 2 ≤ sizeLine; decide, fun kp hkp => ?_⟩
        have f10 : Fr Tb [] H9 (upd H9 kp (.tup [.ref p1, .ref p2])) := Fr.new hkp
        have hk10 : upd H9 kp (.tup [.ref p1, .ref p2]) kp = some (.tup [.ref p1, .ref p2]) := upd_same
        generalize upd H9 kp (.tup [.ref p1, .ref p2]) = H10 at f10 hk10 ⊢
        have hf10 := f10.ext _ _ hf9 (by simp) fun _ z => nomatch (show HO.ext _ = HO.tbl _ from z)
        have hen : EnAt H10 kp (n1, n2) := ⟨p1, p2, hk10, hp1.fr f10, hp2.fr f10⟩
        have hL10 : ∀ p ∈ L, EnAt H10 p.2 p.1 := fun p hp => (hL9 p hp).fr f10
        refine ⟨fp, L, kp, (n1, n2), rfl, rfl, rfl, hf10, hen, hL10, by omega, fun L' hL' => ?_⟩
        have hxy' : x < y := by
          rcases Nat.lt_or_ge x y with h | h
          · exact h
          · have : x = y := by omega
            subst this
            rw [hn1] at hn2
            exact absurd (by rw [Option.some.inj hn2]) hne
        have hmem : ∀ p ∈ L', p ∈ L ∨ p = ((n1, n2), kp) := fun p hp => by
          rcases hL' with rfl | rfl
          · exact .inl hp
          · rcases List.mem_append.mp hp with h | h
            · exact .inl h
            · exact .inr (List.mem_singleton.mp h)
        refine ⟨L', _, _, _, rfl, (f09.trans f10.mono).ndw (.inl (f1.free hfp)) hf10, ?_, ?_, ?_, ?_, upd_same, ?_, ?_, ?_⟩
        · exact (hd9.fr (S := []) f10).put nf
        · rw [upd_ne (ne_of (f10.lst0 hwp9) hf10 ndO_lst)]
          exact f10.lst0 hwp9
        · rw [upd_ne (ne_of (f10.lst0 hnp9) hf10 ndO_lst)]
          exact f10.lst0 hnp9
        · refine (hR9.fr fun a q z => z.fr f10).fr fun a q z => ?_
          show upd H10 fp _ a = _
          unfold NmAt at z
          rw [upd_ne (ne_of z hf10 ndO_tup)]
          exact z
        · intro p hp
          rcases hmem p hp with h | rfl
          · exact (hL10 p h).ndw hf10
          · exact hen.ndw hf10
        · rcases hL' with rfl | rfl
          · omega
          · rw [List.length_append, List.length_singleton]
            omega
        · intro p hp
          rcases hmem p hp with h | rfl
          · exact hLw p h
          · exact ⟨hne, x, y, hxy', hn1, hn2⟩
    · rintro σ H5 ⟨L, x5, x6, x7, rfl, f5, hd5, hwp5, hnp5, hR5, hf5, hL5, hLl, hLw⟩
      refine ⟨_, rfl, wp, wv, rfl, .inl hwp5, by omega, fun H6 cp f6 hcp0 hcp => ?_⟩
      have hf6 := f6.ext _ _ hf5 (by simp) fun _ z => nomatch (show HO.ext _ = HO.tbl _ from z)
      refine ⟨_, rfl, fp, L, rfl, hf6, fun p hp => (hL5 p hp).fr f6, by omega, fun L' sp perm srt hsp => ?_⟩
      have f7 : Fr Tb [] H6 (upd H6 sp (.lst (L'.map fun q => V.ref q.2))) := Fr.new hsp
      have hs7 : upd H6 sp (.lst (L'.map fun q => V.ref q.2)) sp = some (.lst (L'.map fun q => V.ref q.2)) := upd_same
      refine ⟨sp, _, rfl, .inl ⟨SqL.of hs7, fun tp htp => ?_⟩⟩
      generalize upd H6 sp (.lst (L'.map fun q => V.ref q.2)) = H7 at f7 hs7 htp ⊢
      have f8 : Fr Tb [] H7 (upd H7 tp (.tup (L'.map fun q => V.ref q.2))) := Fr.new htp
      have ht8 : upd H7 tp (.tup (L'.map fun q => V.ref q.2)) tp = some (.tup (L'.map fun q => V.ref q.2)) := upd_same
      refine ⟨by show 2 ≤ sizeLine; decide, fun rp hrp => ?_⟩
      generalize upd H7 tp (.tup (L'.map fun q => V.ref q.2)) = H8 at f8 ht8 hrp ⊢
      have f9 : Fr Tb [] H8 (upd H8 rp (.tup [.ref cp, .ref tp])) := Fr.new hrp
      have f69 := f7.trans (f8.trans f9)
      have f59 := f6.trans f69
      have hL9 : ∀ p ∈ L', EnAt (upd H8 rp (.tup [.ref cp, .ref tp])) p.2 p.1 := fun p hp => (hL5 p (perm.mem_iff.mp hp)).fr f59
      refine k _ rp (countsOf wv) (L'.map (·.1)) (f5.trans f59.mono) (hd5.fr (S := []) f59) ⟨cp, tp, _, upd_same, f69.tup0 hcp, f9.tup0 ht8, refs_map hL9⟩ (ledOk_of w4 w8 (fun p hp => hLw p (perm.mem_iff.mp hp)) srt (by rw [perm.length_eq]; omega)) ?_
      rw [counts_sum _ w4]
      exact w8
end
end K81
set_option maxHeartbeats 2000000
namespace K81
open PySem PySem.Spec PyProof.Rows L2 LamX K81M StX RZ
theorem everyGood {c : List Nat} {E : List En} {l : List Nat} (ok : LedOk c E) (h : l ∈ every c E) : Path c E zero4 l ∧ l.length = c.sum ∧ (∀ t ∈ l, t < 4) ∧ KeptB c E l = true ∧ countsOf l = c := by
  have hp := (mem_every ok.len).mp h
  have h4 := Path.lt4 hp
  have hl := hp.length (Le.zero ok.len)
  have hk := (kept_iff ok.ents ok.len h4).mpr hp
  refine ⟨hp, ?_, h4, hk, ?_⟩
  · rw [hl]
    unfold rem zero4
    simp
  · unfold KeptB at hk
    rw [Bool.and_eq_true] at hk
    exact of_decide_eq_true hk.1
theorem two_sum {i j m k : Nat} (hij : i ≠ j) (hi : i < 4) (hj : j < 4) : (two i j m k).sum = m + k := by
  rcases K81M.lt4 hi with rfl | rfl | rfl | rfl <;> rcases K81M.lt4 hj with rfl | rfl | rfl | rfl <;> simp [two, List.range_succ] at hij ⊢ <;> omega
theorem two_few {i j m k : Nat} (hij : i ≠ j) (hi : i < 4) (hj : j < 4) (hm : m ≤ 20) (hk : k ≤ 20) : Few (two i j m k) := by
  have h1 : (m + 1) * (k + 1) ≤ 20000 := Nat.le_trans (Nat.mul_le_mul (by omega : m + 1 ≤ 21) (by omega : k + 1 ≤ 21)) (by decide)
  have h2 : (k + 1) * (m + 1) ≤ 20000 := Nat.le_trans (Nat.mul_le_mul (by omega : k + 1 ≤ 21) (by omega : m + 1 ≤ 21)) (by decide)
  unfold Few
  rcases K81M.lt4 hi with rfl | rfl | rfl | rfl <;> rcases K81M.lt4 hj with rfl | rfl | rfl | rfl <;> simp [two, List.range_succ] at hij ⊢ <;> first | exact h1 | exact h2
theorem two_led {i j m k : Nat} (hm : m ≤ 20) (hk : k ≤ 20) : LedOk (two i j m k) [] where
  len := two_length _ _ _ _
  small := fun n hn => by
    unfold two at hn
    obtain ⟨t, _, rfl⟩ := List.mem_map.mp hn
    split
    · omega
    · split <;> omega
  ents := fun e he => by cases he
  apart := fun e he => by cases he
  sorted := fun i a b h => by cases h
  good := good_nil (two_length _ _ _ _)
  few := Nat.zero_le _
theorem binom_cast (m t : Nat) : ((binom m t : Nat) : Int) * ((m : Int) + (1 + (t : Int))) / (1 + (t : Int)) = ((binom m (t + 1) : Nat) : Int) := by
  rw [← binom_div m t, Int.natCast_ediv]
  congr 1
  · rw [Int.natCast_mul]
    congr 1
    omega
  · omega
section
variable {P : Program} {w : World} {K : PySem.W.Frag} {mg : Str → Option Value} {base : Heap} {Tb : List (Addr × Str)} {f : Addr} {fd : FuncData} {cL cN cT cW : Addr}
theorem led0 {Tb : List (Addr × Str)} {H : Hp} {cp ep lp : Addr} {c : List Nat} (hc : H cp = some (.tup (nIs c))) (hep : H ep = none) (hlp : upd H ep (.tup []) lp = none) : Fr Tb [] H (upd (upd H ep (.tup [])) lp (.tup [.ref cp, .ref ep])) ∧ LedAt (upd (upd H ep (.tup [])) lp (.tup [.ref cp, .ref ep])) lp c [] := by
  have f1 : Fr Tb [] H (upd H ep (.tup [])) := Fr.new hep
  have he : upd H ep (.tup []) ep = some (.tup []) := upd_same
  generalize upd H ep (.tup []) = H1 at f1 he hlp ⊢
  have f2 : Fr Tb [] H1 (upd H1 lp (.tup [.ref cp, .ref ep])) := Fr.new hlp
  exact ⟨f1.trans f2, cp, ep, [], upd_same, f2.tup0 (f1.tup0 hc), f2.tup0 he, .nil⟩
/-! ### _law_mixed_right -/
def spMixR (Tb : List (Addr × Str)) : Sp := fun vs H Q _ => ∃ d l cc, vs = [.ref d] ∧ DrawAt H d l cc ∧ Tabs Tb H ∧ ∀ H', Fr Tb [d, l] H H' → DrawAt H' d l cc → Q (.bl true) H'
theorem sc__law_mixed_right : FnScope ["_law_draw", "_law_one", "_law_other", "_law_many", "_law_more", "_law_due", "_law_k", "_law_counts_here", "_law_thread_here", "_law_number", "_law_told"] ["_law_draw"] (defScope (top 55)) := ⟨rfl, rfl, rfl, by decide +kernel, rfl, by decide +kernel, by decide +kernel⟩
theorem ok_law_mixed_right (F : Fun K "_law_mixed_right" "_law_mixed_right" (top 55) f fd) (T : Txt mg) (C__law_take : Cl P w K mg base CX0 2 "_law_take" (spTake Tb)) (C__law_shuffled : Cl P w K mg base CX0 3 "_law_shuffled" (spShuffled Tb)) (C__law_counts : Cl P w K mg base CX0 1 "_law_counts" (spLCounts Tb))
    (C_how_many : Cl P w K mg base (L2.CX P w) 8 "how_many" (spHowMany Tb cL cT)) (C_weaving_at : Cl P w K mg base (L2.CX P w) 8 "weaving_at" (spAt Tb cL cN cT)) (C_place_of : Cl P w K mg base (L2.CX P w) 8 "place_of" (spPlace Tb cL cW cT)) : FnOk P w K mg base CX0 9 f fd ["_law_draw"] (spMixR Tb) := by
  refine F.ok sc__law_mixed_right (fun vs H Q E h => ?_) (fun cdv A outer s H vs Q E hr h => ?_)
  · obtain ⟨d, l, c, rfl, h⟩ := h
    rfl
  · obtain ⟨d, l, cc, rfl, h⟩ := h
    refine ⟨_, 
      (pss_cons (ps_asg (pe_slice (slL K) (cl0 C__law_shuffled hr (by decide) (by rfl) (pa_cons (pv 0) (pa_cons (pe_lst (pa_cons pe_int (pa_cons pe_int (pa_cons pe_int (pa_cons pe_int pa_nil))))) pa_nil))) po_none (po_some pe_int)) (pgU (n := 2) K (by rfl) (pgs_cons (pg_name (i := 1) sc__law_mixed_right.nd rfl (by first | exact Or.inl rfl | exact Or.inr rfl)) (pgs_cons (pg_name (i := 2) sc__law_mixed_right.nd rfl (by first | exact Or.inl rfl | exact Or.inr rfl)) pgs_nil))))
      (pss_cons (ps_asg (pe_tup (pa_cons (cl0 C__law_take hr (by decide) (by rfl) (pa_cons (pv 0) (pa_cons pe_int pa_nil))) (pa_cons (cl0 C__law_take hr (by decide) (by rfl) (pa_cons (pv 0) (pa_cons pe_int pa_nil))) (pa_cons pe_int pa_nil)))) (pgT (n := 3) K (by rfl) (pgs_cons (pg_name (i := 3) sc__law_mixed_right.nd rfl (by first | exact Or.inl rfl | exact Or.inr rfl)) (pgs_cons (pg_name (i := 4) sc__law_mixed_right.nd rfl (by first | exact Or.inl rfl | exact Or.inr rfl)) (pgs_cons (pg_name (i := 5) sc__law_mixed_right.nd rfl (by first | exact Or.inl rfl | exact Or.inr rfl)) pgs_nil)))))
      (pss_cons (ps_for PassesOwn.never rfl (pi_range2 (by rfl) T.f_range (pa_cons pe_int (pa_cons (pe_op op_add (pv 4) pe_int) pa_nil))) (pg_name (i := 6) sc__law_mixed_right.nd rfl (by first | exact Or.inl rfl | exact Or.inr rfl))
      (pss_one (ps_set (i := 5) sc__law_mixed_right.nd rfl (by first | exact Or.inl rfl | exact Or.inr rfl) (pe_op op_fdiv (pe_op op_mul (pv 5) (pe_op op_add (pv 3) (pv 6))) (pv 6)))))
      (pss_cons (ps_set (i := 7) sc__law_mixed_right.nd rfl (by first | exact Or.inl rfl | exact Or.inr rfl) (pe_callTy (crTupOf K) (by rfl) T.f_tuple (by decide +kernel) (pa_cons (pe_lc (own := [("_law_thread_here", 8)]) (by rfl) sc__law_mixed_right.nd (pi_range1 (by rfl) T.f_range (pa_cons pe_int pa_nil)) (blkOk_by (by kernel_rfl)) (fun _ _ _ _ _ => (pg_name (i := 8) sc__law_mixed_right.nd rfl (by first | exact Or.inl rfl | exact Or.inr rfl))) (fun _ _ _ _ _ => pts_nil) (fun _ _ _ _ _ => (pe_ifExp (pt_cmpR op_eq (pv 8) (pv 1) (nomark _)) (pv 3) (pe_ifExp (pt_cmpR op_eq (pv 8) (pv 2) (nomark _)) (pv 4) pe_int)))) pa_nil)))
      (pss_cons (ps_if (pt_cmpR op_ne (clN C_how_many hr (by decide) (by rfl) (pa_cons (pe_tup (pa_cons (pv 7) (pa_cons (pe_tup pa_nil) pa_nil))) pa_nil)) (pv 5) (nomark _))
      (pss_one (ps_ret pe_bl)) pss_nil)
      (pss_cons (ps_set (i := 9) sc__law_mixed_right.nd rfl (by first | exact Or.inl rfl | exact Or.inr rfl) (cl0 C__law_take hr (by decide) (by rfl) (pa_cons (pv 0) (pa_cons (pv 5) pa_nil))))
      (pss_cons (ps_set (i := 10) sc__law_mixed_right.nd rfl (by first | exact Or.inl rfl | exact Or.inr rfl) (clN C_weaving_at hr (by decide) (by rfl) (pa_cons (pe_tup (pa_cons (pv 7) (pa_cons (pe_tup pa_nil) pa_nil))) (pa_cons (pv 9) pa_nil))))
      (pss_one (ps_ret (pe_and (pe_cmpR (opEq K hr.units) (cl0 C__law_counts hr (by decide) (by rfl) (pa_cons (pv 10) pa_nil)) (pv 7) (nomark _)) (pe_one (pe_cmpR op_eq (clN C_place_of hr (by decide) (by rfl) (pa_cons (pe_tup (pa_cons (pv 7) (pa_cons (pe_tup pa_nil) pa_nil))) (pa_cons (pv 10) pa_nil))) (pv 9) (nomark _)))))))))))))
      , ?_⟩
    obtain ⟨hd, hT, k⟩ := h
    refine ⟨_, rfl, by show 4 ≤ sizeLine; decide, fun a ha => ?_⟩
    have na := hd.new ha
    have f1 : Fr Tb [] H (upd H a (.lst [.int 0, .int 1, .int 2, .int 3])) := Fr.new ha
    have ha1 : upd H a (.lst [.int 0, .int 1, .int 2, .int 3]) a = some (.lst (nIs [0, 1, 2, 3])) := upd_same
    generalize upd H a (.lst [.int 0, .int 1, .int 2, .int 3]) = H1 at f1 ha1 ⊢
    have hd1 := hd.fr (S := []) f1
    refine ⟨d, l, cc, a, _, rfl, hd1, ha1, na.1, by decide, fun H2 p ys f2 hd2 hp0 hp hperm => ?_⟩
    obtain ⟨i, j, y2, y3, rfl⟩ := K81M.len4 (d := ys) hperm.length_eq
    have i4 : i < 4 := by
      have z := hperm.mem_iff.mp (show i ∈ [i, j, y2, y3] by simp)
      simp at z
      omega
    have j4 : j < 4 := by
      have z := hperm.mem_iff.mp (show j ∈ [i, j, y2, y3] by simp)
      simp at z
      omega
    have hij : i ≠ j := by
      have z := hperm.nodup_iff.mpr (by decide : [0, 1, 2, 3].Nodup)
      simp only [List.nodup_cons, List.mem_cons, not_or] at z
      exact z.1.1
    delta tNoPart
    dsimp only
    refine ⟨_, rfl, p, _, rfl, SqL.of hp, fun q hq => ?_⟩
    have e : cutV (nIs [i, j, y2, y3]) none (some 2) = [nI i, nI j] := cutHi (xs := nIs [i, j, y2, y3]) (t := 2)
    rw [e]
    have f3 : Fr Tb [] H2 (upd H2 q (.lst [nI i, nI j])) := Fr.new hq
    have hq3 : upd H2 q (.lst [nI i, nI j]) q = some (.lst [nI i, nI j]) := upd_same
    generalize upd H2 q (.lst [nI i, nI j]) = H3 at f3 hq3 ⊢
    have hd3 := hd2.fr (S := []) f3
    have f03 : Fr Tb [d, l] H H3 := (f1.tr f2).trans f3.mono
    refine ⟨q, _, rfl, SqL.of hq3, rfl, _, _, rfl, _, _, rfl, rfl, ?_⟩
    refine ⟨_, rfl, d, l, cc, 21, rfl, hd3, by decide, by decide, fun H4 m f4 hd4 hm => ?_⟩
    refine ⟨_, rfl, d, l, cc, 21, rfl, hd4, by decide, by decide, fun H5 kk f5 hd5 hk => ?_⟩
    have f05 : Fr Tb [d, l] H H5 := (f03.trans f4).trans f5
    have hT5 := f05.tabs hT
    refine ⟨by show 3 ≤ sizeLine; decide, fun tp htp => ?_⟩
    have f6 : Fr Tb [] H5 (upd H5 tp (.tup [nI m, nI kk, .int 1])) := Fr.new htp
    have ht6 : upd H5 tp (.tup [nI m, nI kk, .int 1]) tp = some (.tup [nI m, nI kk, .int 1]) := upd_same
    generalize upd H5 tp (.tup [nI m, nI kk, .int 1]) = H6 at f6 ht6 ⊢
    have hd6 := hd5.fr (S := []) f6
    have hT6 := f6.tabs hT5
    have f06 := f05.trans f6.mono
    refine ⟨tp, _, rfl, SqT.of ht6, rfl, _, _, rfl, _, _, rfl, _, _, rfl, rfl, ?_⟩
    have bb : ∀ t, t ≤ kk → binom m t < 2 ^ 41 := fun t ht => Nat.lt_of_le_of_lt (binom_le (m + t) m t rfl) (Nat.pow_lt_pow_right (by decide) (by omega))
    refine ⟨_, rfl, _, _, rfl, rfl, ?_⟩
    refine ⟨1, (kk : Int) + 1, rfl, ⟨by decide, by decide, by omega, by omega⟩, ?_⟩
    rw [show ((kk : Int) + 1 - 1).toNat = kk by omega]
    refine for_range (lo := 1) (n := kk) (fun t σ H' => H' = H6 ∧ ∃ x6, σ = [some (.ref d), some (nI i), some (nI j), some (nI m), some (nI kk), some (nI (binom m t)), x6, none, none, none, none]) ⟨rfl, none, by rw [binom_zero_right]; rfl⟩ ?_ ?_
    · rintro t σ H' ht ⟨rfl, x6, rfl⟩
      have := bb t (by omega)
      refine ⟨_, rfl, _, rfl, _, rfl, _, _, rfl, rfl, _, _, rfl, rfl, .inr ⟨by omega, by omega⟩, _, rfl, _, _, rfl, rfl, ⟨by omega, by omega⟩, rfl, some (.int (1 + (t : Int))), ?_⟩
      show _ = [_, _, _, _, _, some (V.int ((binom m (t + 1) : Nat) : Int)), _, _, _, _, _]
      rw [← binom_cast m t]
      rfl
    · rintro σ H' ⟨e6, x6, rfl⟩
      obtain rfl : H6 = H' := e6.symm
      have bk := bb kk (Nat.le_refl _)
      have bpos := binom_pos m kk
      refine ⟨4, rfl, by decide, by decide, fun D hD => lc_range (lo := 0) (n := 4) (fun t H' => Fr Tb [] H6 H' ∧ H' D = some (.lst (nIs (((List.range 4).take t).map fun t => if t = i then m else if t = j then kk else 0)))) ⟨Fr.new hD, upd_same⟩ ?_ ?_⟩
      · rintro t H' ht ⟨f7, hL⟩
        have ev : V.int (0 + (t : Int)) = nI t := by rw [Int.zero_add]
        have fin : ∀ x : Nat, x = (if t = i then m else if t = j then kk else 0) → ∃ acc, H' D = some (.lst acc) ∧ acc.length < sizeLine ∧ (Fr Tb [] H6 (upd H' D (.lst (acc ++ [nI x]))) ∧ upd H' D (.lst (acc ++ [nI x])) D = some (.lst (nIs (((List.range 4).take (t + 1)).map fun t => if t = i then m else if t = j then kk else 0)))) := fun x hx => by
          refine ⟨_, hL, ?_, f7.lstw (.inl hD) hL, ?_⟩
          · rw [List.length_map, List.length_map, List.length_take]
            exact Nat.lt_of_le_of_lt (Nat.min_le_left _ _) (Nat.lt_of_lt_of_le ht (by decide))
          · rw [upd_same, take_snoc (List.getElem?_range ht), hx]
            simp [nIs]
        have dd : ∀ x y : Nat, decide (nI x = nI y) = decide (x = y) := fun x y => decide_eq_decide.mpr ⟨fun z => by injection z with z; omega, fun z => by rw [z]⟩
        refine ⟨rfl, yes_lc ?_⟩
        rw [ev]
        refine ⟨_, rfl, _, rfl, rfl, _, rfl, ?_⟩
        rw [dd]
        by_cases h1 : t = i
        · rw [decide_eq_true h1]
          exact iteT ⟨_, rfl, fin m (by rw [if_pos h1])⟩
        · rw [decide_eq_false h1]
          refine iteF ⟨_, rfl, _, rfl, rfl, _, rfl, ?_⟩
          rw [dd]
          by_cases h2 : t = j
          · rw [decide_eq_true h2]
            exact iteT ⟨_, rfl, fin kk (by rw [if_neg h1, if_pos h2])⟩
          · rw [decide_eq_false h2]
            exact iteF (fin 0 (by rw [if_neg h1, if_neg h2]))
      · rintro H7 ⟨f7, hL⟩
        refine ⟨D, _, rfl, .inl ⟨SqL.of hL, fun cp hcp => ?_⟩⟩
        have f8 : Fr Tb [] H7 (upd H7 cp (.tup (nIs (two i j m kk)))) := Fr.new hcp
        have hc8 : upd H7 cp (.tup (nIs (two i j m kk))) cp = some (.tup (nIs (two i j m kk))) := upd_same
        show tSeq _ _ _ _ (upd H7 cp (.tup (nIs (two i j m kk))))
        generalize upd H7 cp (.tup (nIs (two i j m kk))) = H8 at f8 hc8 ⊢
        have ok : LedOk (two i j m kk) [] := two_led (by omega) (by omega)
        have few : Few (two i j m kk) := two_few hij i4 j4 (by omega) (by omega)
        have hW : W (two i j m kk) [] zero4 = binom m kk := W_two_zero hij i4 j4
        have f68 := f7.trans f8
        have hT8 := f68.tabs hT6
        refine ⟨_, rfl, by show 0 ≤ sizeLine; decide, fun ep hep => ⟨by show 2 ≤ sizeLine; decide, fun lp hlp => ?_⟩⟩
        have f9hled := led0 (Tb := Tb) hc8 hep hlp
        generalize upd (upd H8 ep (.tup [])) lp (.tup [.ref cp, .ref ep]) = H9 at f9hled ⊢
        obtain ⟨f9, hled⟩ := f9hled
        refine ⟨_, rfl, .inr ⟨lp, _, [], rfl, hled, ok, f9.tabs hT8, fun _ H10 f10 => ?_, fun nf => absurd few nf⟩⟩
        rw [hW]
        refine ⟨_, rfl, rfl, _, rfl, ?_⟩
        rw [show (!decide (nI (binom m kk) = nI (binom m kk))) = false by rw [decide_eq_true rfl]; rfl]
        refine iteF ?_
        have f810 := f9.trans f10
        have hd10 := (hd6.fr (S := []) f68).fr (S := []) f810
        refine ⟨_, rfl, _, rfl, d, l, cc, _, rfl, hd10, by omega, by omega, fun H11 v f11 hd11 hv => ?_⟩
        have nc : cp ≠ d ∧ cp ≠ l := by
          obtain ⟨r, t, ls, zs, g1, g2, _⟩ := hd6.fr (S := []) f68
          exact ⟨ne_of hc8 g1 (by intro z; cases z), ne_of hc8 g2 (by intro z; cases z)⟩
        have hc11 : H11 cp = some (.tup (nIs (two i j m kk))) := f11.tup (f810.tup0 hc8) (by simp [nc.1, nc.2])
        have hT11 := f11.tabs (f810.tabs hT8)
        have f011 : Fr Tb [d, l] H H11 := f06.trans ((f68.trans f810).tr f11)
        obtain ⟨w0, hw0⟩ : ∃ w0, (every (two i j m kk) [])[v]? = some w0 := ⟨_, List.getElem?_eq_getElem (by rw [every_length, hW]; omega)⟩
        obtain ⟨g1, g2, g3, g4, g5⟩ := everyGood ok (List.mem_of_getElem? hw0)
        rw [two_sum hij i4 j4] at g2
        -- weaving_at
        refine ⟨_, rfl, by show 0 ≤ sizeLine; decide, fun ep hep => ⟨by show 2 ≤ sizeLine; decide, fun lp2 hlp => ?_⟩⟩
        have f12hled2 := led0 (Tb := Tb) hc11 hep hlp
        generalize upd (upd H11 ep (.tup [])) lp2 (.tup [.ref cp, .ref ep]) = H12 at f12hled2 ⊢
        obtain ⟨f12, hled2⟩ := f12hled2
        refine ⟨_, rfl, _, _, rfl, .inr ⟨lp2, _, [], rfl, hled2, ok, f12.tabs hT11, ⟨_, .int _⟩, fun nf => absurd few nf, fun _ hth => ?_, fun _ n hn hnw l0 hl0 H13 wp f13 hwp => ?_⟩⟩
        · rw [hW] at hth
          have z : isTh (nI v) ((binom m kk : Int) - 1) = true := decide_eq_true (by omega)
          rw [z] at hth
          cases hth
        · have : n = v := by
            injection hn with hn
            omega
          subst this
          rw [hw0] at hl0
          cases hl0
          -- the counts
          have f1113 := f12.trans f13
          refine ⟨_, rfl, wp, w0, rfl, .inr (.inr hwp), by omega, fun H14 kp f14 hkp0 hkp => ?_⟩
          rw [g5] at hkp
          refine ⟨_, rfl, ?_⟩
          have hc14 := (f1113.trans f14).tup0 hc11
          refine ⟨.tuple (nD (two i j m kk)), .tuple (nD (two i j m kk)), .tup (SqT.of hkp) (dpN _), .tup (SqT.of hc14) (dpN _), shapedT _, shapedT _, ?_⟩
          rw [eqvT, decide_eq_true rfl]
          refine ⟨_, rfl, iteT ?_⟩
          -- place_of
          refine ⟨_, rfl, by show 0 ≤ sizeLine; decide, fun ep hep => ⟨by show 2 ≤ sizeLine; decide, fun lp3 hlp => ?_⟩⟩
          have ff := led0 (Tb := Tb) hc14 hep hlp
          generalize upd (upd H14 ep (.tup [])) lp3 (.tup [.ref cp, .ref ep]) = H15 at ff ⊢
          obtain ⟨f15, hled3⟩ := ff
          refine ⟨_, rfl, _, _, rfl, .inr ⟨lp3, _, [], rfl, hled3, ok, f15.tabs ((f1113.trans f14).tabs hT11), .inr ⟨wp, w0, ⟨rfl, .inr ((f14.trans f15).fz0 hwp), by omega, g3, g4⟩, fun nf => absurd few nf, fun _ H16 f16 => ?_⟩⟩⟩
          have hplc : plc (two i j m kk) [] zero4 w0 = n := plc_at (Le.zero ok.len) (by unfold rem zero4; rfl) (by
            show (every (two i j m kk) [])[n]? = _
            exact hw0)
          rw [hplc]
          refine ⟨_, rfl, rfl, ?_⟩
          rw [decide_eq_true rfl]
          have f1116 := (f1113.trans f14).trans (f15.trans f16)
          exact k H16 (f011.trans f1116.mono) (hd11.fr (S := []) f1116)
end
end K81
set_option maxHeartbeats 2000000
namespace K81
open PySem PySem.Spec PyProof.Rows L2 LamX K81M StX RZ
/-! ### defs that run where no repr is under way -/
structure FnG (P : Program) (w : World) (K : PySem.W.Frag) (mg : Str → Option Value) (base : Heap) (CX : CXT) (k : Nat) (f : Addr) (fd : FuncData) (ps : List Str) (sp : Sp) : Prop where
  len : ∀ vs H Q E, sp vs H Q E → vs.length = ps.length
  run : ∀ (A : Around) (outer : List Env) (s : Shared) (H : Hp) (args : Args) (us : List Value) (vs : List V) (Q : VK) (E : XK), A.guards = some [] → Room k A → Env0 P w K mg base A outer s H → BindsTo s fd args (ps.zip us) → Vals vs us → sp vs H Q E →
    codeAny (model P w) A (.call (.ref f) args) (CR CX outer P w H s Q E) s
section
variable {P : Program} {w : World} {K : PySem.W.Frag} {mg : Str → Option Value} {base : Heap}
theorem gd_deeper {A : Around} {env : Env} (h : A.guards = some []) : (A.deeper env).guards = some [] := h
/-- its body at an A with no repr under way -/
theorem Fun.okG {x qual : Str} {st : Stmt} {f : Addr} {fd : FuncData} {N ps : List Str} {k : Nat} {sp : Sp} (F : Fun K x qual st f fd) (S : FnScope N ps (defScope st)) (len : ∀ vs H Q E, sp vs H Q E → vs.length = ps.length)
    (hbody : ∀ (cdv : Value) (A : Around) (outer : List Env) (s : Shared) (H : Hp) (vs : List V) (Q : VK) (E : XK), A.guards = some [] → Room k (A.deeper (envOfC qual (defScope st) s.heap.objs.size f cdv)) → sp vs H Q E →
      ∃ t, PSs (cxOf CX0 P w K mg base N qual (defScope st) f cdv A outer s H E).nox (defBody st) t ∧ t { nx := fun _ H' => Q .non H', rt := Q } (L2.start N vs) H) : FnG P w K mg base CX0 (k + 1) f fd ps sp := by
  obtain ⟨oc, od, kV, doc, pm, an, cdv, ct, osl, rfl, lk, hcd⟩ := F.ex
  refine ⟨len, fun A outer s H args us vs Q E hg hr e0 hb r hsp => ?_⟩
  have KX : K.In s.heap := e0.mod.kin.keeps fun b o e => (e0.bs b o e).1
  have kinds : ∀ y ∈ ps.zip us, (defScope st).names.lookup y.1 = some .local ∨ ((defScope st).names.lookup y.1 = some .cell ∧ ((cellsFrom (s.heap.objs.size + 1) (defScope st).names []).lookup y.1).isSome = true) := fun y hy =>
    (S.par y.1 (List.of_mem_zip (a := y.1) (b := y.2) hy).1).imp id fun q => ⟨q, PySem.W.cellsFrom_some _ _ _ (.inl q)⟩
  refine codeAny_call_function hr.depth (KX _ _ lk) rfl S.co S.gen rfl (PySem.W.codeRec_of KX hcd) (hb _ _ _ _ (wpAny_newFunctionEnv_cells S.kind kinds fun env he s1 x => ?_))
  subst he
  refine ⟨(e0.mod.nolimit.keeps fun b o e => (e0.bs b o e).1).keeps x.toInCall.keep, codeAny_func ?_⟩
  obtain ⟨t, ht, hq⟩ := hbody cdv A outer s H vs Q E hg (hr.deeper _) hsp
  refine wpAny_mono (ht.nox.run [] s1 (L2.start N vs) H _ (inv_start S hr.hd e0 (len _ _ _ _ hsp) r x) hq) (fun fl s' hs => ?_) fun _ _ z => z
  match fl, hs with
  | .ret u, ⟨v, σ', H', J, rv, q⟩ => exact ⟨v, H', J.os, J.bare, J.base, J.hok, rv, q⟩
  | .next, ⟨σ', H', J, q⟩ => exact ⟨V.non, H', J.os, J.bare, J.base, J.hok, rfl, q⟩
  | .brk, ⟨_, _, _, q⟩ => exact False.elim q
  | .cont, ⟨_, _, _, q⟩ => exact False.elim q
end
structure ClG (P : Program) (w : World) (K : PySem.W.Frag) (mg : Str → Option Value) (base : Heap) (CX : CXT) (k : Nat) (x : Str) (sp : Sp) : Prop where
  ex : ∃ (f : Addr) (fd : FuncData) (ps : List Str), mg x = some (.ref f) ∧ PySem.W.keepIn K (.ref f) = true ∧ Binds K fd ps [] ∧ FnG P w K mg base CX k f fd ps sp
section
variable {X : Cx} {k j : Nat} {x : Str} {sp : Sp} {e : Expr} {es : List Expr} {t : TA} {p pos : Pos}
theorem clG (c : ClG X.prog X.w X.K X.mg X.base CX0 k x sp) (hgd : X.A.guards = some []) (hr : Room j X.A) (hk : k ≤ j) (hg : Gl X x) (ha : PA X (e :: es) t) (hdb : (x == ("__debug__" : Str)) = false := by decide)
    (he : starEach (e :: es) X.env = (false, eval e X.env) :: starEach es X.env := by rfl) (hpl : (backTo pos (starEach es X.env)).any (·.1) = false := by rfl) : PE X (.Call (.Name x p) (e :: es) [] pos) (tCl sp E0 t) := by
  obtain ⟨f, fd, ps, hm, hkp, hb, F⟩ := c.ex
  refine ⟨fun pins s σ H Q I h => wpAny_Call_Name_kw (ld_glob I hg hm (PySem.W.callWith_K (h₀ := X.base) I.ok.mod.kin hkp (thn (ha.run pos pins s σ H _ I h) fun us s1 ⟨vs, H1, I1, r, q⟩ => ⟨I1.kIn, ?_⟩) he hpl) hdb)⟩
  have hl : us.length = ps.length := by rw [← r.length]; exact F.len _ _ _ _ q
  have hb2 := hb s1 us I1.kIn (by rw [List.append_nil]; exact hl)
  rw [List.append_nil] at hb2
  refine wpAny_call (codeAny_mono (F.run X.A X.stack s1 H1 ⟨us, []⟩ us vs Q E0 hgd (hr.mono hk) I1.env0 hb2 r q) fun r s' hq => ?_)
  match r, hq with
  | .ok (.ret u), hq => exact I1.after hq
  | .ok .next, hq => exact False.elim hq
  | .ok .brk, hq => exact False.elim hq
  | .ok .cont, hq => exact False.elim hq
  | .error e, hq => exact False.elim hq
end
end K81
set_option maxHeartbeats 2000000
namespace K81
open PySem PySem.Spec PyProof.Rows L2 LamX K81M StX RZ
/-! ### what may be shown: None, a small int, a small tuple of threads -/
def RepOk (d : PyData) : Prop := d = .none ∨ (∃ n : Nat, d = .int (n : Int) ∧ n < 2 ^ 64) ∨ ∃ l : List Nat, d = .tuple (nD l) ∧ l.length ≤ 1000 ∧ ∀ t ∈ l, t < 4
theorem showableT : ∀ {l : List Nat}, (∀ t ∈ l, t < 4) → PyData.showableAll (nD l) = true
  | [], _ => rfl
  | t :: l, h => by
    have h1 := h t List.mem_cons_self
    show (decide ((t : Int).natAbs.log2 < 1920) && PyData.showableAll (nD l)) = true
    rw [showableT fun u hu => h u (List.mem_cons_of_mem _ hu), Bool.and_true]
    rcases K81M.lt4 h1 with rfl | rfl | rfl | rfl <;> decide
theorem noDictT : ∀ l : List Nat, PyData.hasDictAll (nD l) = false
  | [] => rfl
  | t :: l => noDictT l
theorem depthT : ∀ l : List Nat, PyData.depthAll (nD l) = 0
  | [] => rfl
  | t :: l => by
    show max 0 (PyData.depthAll (nD l)) = 0
    rw [depthT l]
    rfl
theorem piledT : ∀ {l : List Nat}, (∀ t ∈ l, t < 4) → piled (PyData.shownAll (nD l)) = 3 * l.length
  | [], _ => rfl
  | t :: l, h => by
    have h1 := h t List.mem_cons_self
    show piled ((toString (t : Int) : Str) :: PyData.shownAll (nD l)) = _
    rw [piled_cons, piledT fun u hu => h u (List.mem_cons_of_mem _ hu), List.length_cons]
    have e : (toString (t : Int) : Str).length = 1 := by rcases K81M.lt4 h1 with rfl | rfl | rfl | rfl <;> decide +kernel
    rw [e]
    omega
theorem shownT {l : List Nat} (h : ∀ t ∈ l, t < 4) (hl : l.length ≤ 1000) : (PyData.tuple (nD l)).shown.length ≤ sizeLine := by
  have e : (PyData.tuple (nD l)).shown = tupleText (PyData.shownAll (nD l)) := by simp only [PyData.shown]
  rw [e]
  unfold tupleText
  rw [strLen_append, strLen_append]
  have h1 : ("(" : Str).length = 1 := by decide +kernel
  have h2 : ((if (PyData.shownAll (nD l)).length == 1 then ",)" else ")" : String) : Str).length ≤ 2 := by split <;> decide +kernel
  have h3 : (Str.join ", " (PyData.shownAll (nD l))).length ≤ 3 * l.length := by
    by_cases hn : PyData.shownAll (nD l) = []
    · rw [hn]
      exact Nat.le_trans (by decide +kernel : (Str.join ", " []).length ≤ 0) (Nat.zero_le _)
    · have z := join_length_add _ hn
      rw [piledT h] at z
      omega
  exact Nat.le_trans (by omega : _ ≤ 4000) (by decide)
theorem RepOk.same {d : PyData} (h : RepOk d) : SeqAt.shaped d = true ∧ PyData.eqv d d = true := by
  rcases h with rfl | ⟨n, rfl, _⟩ | ⟨l, rfl, _⟩
  · exact ⟨rfl, rfl⟩
  · exact ⟨rfl, by simp [PyData.eqv]⟩
  · exact ⟨shapedT l, by rw [eqvT]; exact decide_eq_true rfl⟩
theorem ne_same {K : PySem.W.Frag} {H : Hp} {x y : V} {d : PyData} {Q : VK} (hx : Dp K H x d) (hy : Dp K H y d) (h : RepOk d) (q : Q (.bl false) H) : rNeD K x y H Q := ⟨d, d, hx, hy, h.same.1, h.same.1, by rw [h.same.2]; exact q⟩
section
variable {X : Cx} {K : PySem.W.Frag}
def rRep (K : PySem.W.Frag) : List V → Hp → VK → Prop := fun xs H Q => ∃ x d, xs = [x] ∧ Dp K H x d ∧ RepOk d ∧ Q (.str d.shown) H
theorem cr_rep (hgd : X.A.guards = some []) (hu : X.A.units + 64 < cLine) : CallR X (.builtin "repr") (rRep X.K) := by
  intro pins s σ H xs us Q I r h
  obtain ⟨x, d, rfl, hd, ok, q⟩ := h
  obtain ⟨u, rfl, rx⟩ := vals1 r
  rcases ok with rfl | ⟨n, rfl, hn⟩ | ⟨l, rfl, hl, h4⟩
  · cases hd
    cases rx
    exact PySem.P.repr_of_none ⟨.str "None", H, I.tok _, ⟨_, rfl⟩, q⟩
  · cases hd
    obtain ⟨t, rfl⟩ := rx
    refine PySem.P.repr_of_int (t := t) ?_ ⟨.str (toString (n : Int)), H, I.tok _, ⟨_, rfl⟩, by simpa only [PyData.shown] using q⟩
    have z : (n : Int).natAbs = n := Int.natAbs_natCast n
    rw [z]
    by_cases h0 : n = 0
    · subst h0; decide
    · have := (Nat.log2_lt h0).mpr hn
      omega
  · obtain ⟨as, rd⟩ := Dp.reads I _ x u hd rx
    cases hd with
    | tup hs hall =>
      obtain rfl := rx
      refine repr_of_reads' rd (by simpa only [PyData.showable] using showableT h4) (fun z => ?_) hgd ?_ (fun _ _ e => e) (fun h' t tk hk => ⟨.str (PyData.tuple (nD l)).shown, H, I.kept (t' := tk) hk, ⟨_, rfl⟩, q⟩) (shownT h4 hl)
      · simp only [PyData.hasDict] at z
        rw [noDictT] at z
        cases z
      · simp only [PyData.depth]
        rw [depthT]
        omega
theorem crRep (hgd : X.A.guards = some []) (hu : X.A.units + 64 < cLine) (h : X.K = K := by rfl) : CallR X (.builtin "repr") (rRep K) := h ▸ cr_rep hgd hu
end
/-! ### calls with all arguments named, in the parameters' reverse order -/
structure ClR (P : Program) (w : World) (K : PySem.W.Frag) (mg : Str → Option Value) (base : Heap) (CX : CXT) (k : Nat) (x : Str) (ks : List Str) (sp : Sp) : Prop where
  ex : ∃ (f : Addr) (fd : FuncData) (ps : List Str), mg x = some (.ref f) ∧ PySem.W.keepIn K (.ref f) = true ∧ (∀ (s : Shared) (ws : List Value), ws.length = ps.length → BindsTo s fd ⟨[], ks.zip ws⟩ (ps.zip ws.reverse)) ∧ FnOk P w K mg base CX k f fd ps sp
def tClR (sp : Sp) (E : XK) (t : TA) : TE := fun σ H Q => t σ H fun vs H1 => sp vs.reverse H1 Q E
theorem Vals.rev : ∀ {vs : List V} {us : List Value}, Vals vs us → Vals vs.reverse us.reverse
  | _, _, .nil => .nil
  | _, _, .cons h t => by
    rw [List.reverse_cons, List.reverse_cons]
    exact (Vals.rev t).append (.cons h .nil)
section
variable {X : Cx} {k j : Nat} {x : Str} {sp : Sp} {kws : List Keyword} {ks : List Str} {t : TA} {p pos : Pos}
theorem clR (c : ClR X.prog X.w X.K X.mg X.base (L2.CX X.prog X.w) k x ks sp) (hr : Room j X.A) (hk : k ≤ j) (hg : Gl X x) (ha : PK X kws t) (hall : (backToKw pos (keywordEach kws X.env)).all (·.1.isSome) = true := by rfl) (hks : (backToKw pos (keywordEach kws X.env)).filterMap (·.1) = ks := by rfl)
    (hdb : (x == ("__debug__" : Str)) = false := by decide) (hpl : ((backTo pos (starEach [] X.env)).any (·.1) || (backToKw pos (keywordEach kws X.env)).any (·.1.isNone)) = false := by rfl) : PE X (.Call (.Name x p) [] kws pos) (tClR sp E0 t) := by
  obtain ⟨f, fd, ps, hm, hkp, hb, F⟩ := c.ex
  refine ⟨fun pins s σ H Q I h => wpAny_Call_Name_kw (ld_glob I hg hm (PySem.W.callWith_KW0 (h₀ := X.base) I.ok.mod.kin hkp hall (thn (ha.run pos pins s σ H _ I h) fun ws s1 ⟨zs, H1, I1, r, q⟩ => ⟨I1.kIn, ?_⟩) hpl) hdb)⟩
  rw [hks]
  have r2 := Vals.rev r
  have hl : ws.length = ps.length := by
    have z := r2.length
    rw [List.length_reverse, List.length_reverse] at z
    rw [← z, ← F.len _ _ _ _ q, List.length_reverse]
  refine wpAny_call (codeAny_mono (F.run X.A X.stack s1 H1 ⟨[], ks.zip ws⟩ ws.reverse zs.reverse Q E0 (hr.mono hk) I1.env0 (hb s1 ws hl) r2 q) fun r s' hq => ?_)
  match r, hq with
  | .ok (.ret u), hq => exact I1.after hq
  | .ok .next, hq => exact False.elim hq
  | .ok .brk, hq => exact False.elim hq
  | .ok .cont, hq => exact False.elim hq
  | .error e, hq => exact passL pins σ H1 s1 e s' I1 hq
end
end K81
set_option maxHeartbeats 4000000
namespace K81
open PySem PySem.Spec PyProof.Rows L2 LamX K81M StX RZ
theorem few8 {c : List Nat} (h4 : c.length = 4) (hs : c.sum ≤ 8) : Few c := by
  obtain ⟨a, b, e, f, rfl⟩ := K81M.len4 h4
  simp at hs
  unfold Few
  have h1 : (a + 1) * ((b + 1) * ((e + 1) * ((f + 1) * 1))) ≤ 9 * (9 * (9 * (9 * 1))) := Nat.mul_le_mul (by omega) (Nat.mul_le_mul (by omega) (Nat.mul_le_mul (by omega) (Nat.mul_le_mul (by omega) (Nat.le_refl 1))))
  exact Nat.le_trans h1 (by decide)
theorem neF {x y : V} (h : x = y) : (!decide (x = y)) = false := by rw [decide_eq_true h]; rfl
theorem repI {n : Nat} (h : n < 2 ^ 64) : RepOk (.int (n : Int)) := .inr (.inl ⟨n, rfl, h⟩)
theorem repT {l : List Nat} (h : l.length ≤ 1000) (h4 : ∀ t ∈ l, t < 4) : RepOk (.tuple (nD l)) := .inr (.inr ⟨l, rfl, h, h4⟩)
theorem dpTup {K : PySem.W.Frag} {H : Hp} {a : Addr} {l : List Nat} (h : SqT K H a (nIs l)) : Dp K H (.ref a) (.tuple (nD l)) := .tup h (dpN l)
section
variable {P : Program} {w : World} {K : PySem.W.Frag} {mg : Str → Option Value} {base : Heap} {Tb : List (Addr × Str)} {f : Addr} {fd : FuncData} {cL cN cT cW : Addr}
/-! ### _law_listed_right -/
def spListed (Tb : List (Addr × Str)) : Sp := fun vs H Q _ => ∃ d l cc la c E, vs = [.ref d, .ref la] ∧ DrawAt H d l cc ∧ LedAt H la c E ∧ LedOk c E ∧ c.sum ≤ 8 ∧ Tabs Tb H ∧ ∀ H', Fr Tb [d, l] H H' → DrawAt H' d l cc → Q (.bl true) H'
theorem sc__law_listed_right : FnScope ["_law_draw", "_law_ledger_here", "_law_every", "_law_number", "_law_lap", "_law_told", "_law_due"] ["_law_draw", "_law_ledger_here"] (defScope (top 54)) := ⟨rfl, rfl, rfl, by decide +kernel, rfl, by decide +kernel, by decide +kernel⟩
theorem ok_law_listed_right (F : Fun K "_law_listed_right" "_law_listed_right" (top 54) f fd) (T : Txt mg) (C__law_take : Cl P w K mg base CX0 2 "_law_take" (spTake Tb)) (C__law_all_woven : Cl P w K mg base CX0 2 "_law_all_woven" (spAll Tb))
    (C_how_many : Cl P w K mg base (L2.CX P w) 8 "how_many" (spHowMany Tb cL cT)) (R_how_many : ClR P w K mg base (L2.CX P w) 8 "how_many" ["ledger"] (spHowMany Tb cL cT))
    (C_least_weaving : Cl P w K mg base (L2.CX P w) 8 "least_weaving" (spLeast Tb cL cT)) (R_least_weaving : ClR P w K mg base (L2.CX P w) 8 "least_weaving" ["ledger"] (spLeast Tb cL cT))
    (C_next_weaving : Cl P w K mg base (L2.CX P w) 8 "next_weaving" (spNext Tb cL cW cT)) (R_next_weaving : ClR P w K mg base (L2.CX P w) 8 "next_weaving" ["weaving", "ledger"] (spNext Tb cL cW cT))
    (C_weaving_at : Cl P w K mg base (L2.CX P w) 8 "weaving_at" (spAt Tb cL cN cT)) (R_weaving_at : ClR P w K mg base (L2.CX P w) 8 "weaving_at" ["number", "ledger"] (spAt Tb cL cN cT))
    (C_place_of : Cl P w K mg base (L2.CX P w) 8 "place_of" (spPlace Tb cL cW cT)) (R_place_of : ClR P w K mg base (L2.CX P w) 8 "place_of" ["weaving", "ledger"] (spPlace Tb cL cW cT)) :
    FnG P w K mg base CX0 9 f fd ["_law_draw", "_law_ledger_here"] (spListed Tb) := by
  refine K81.Fun.okG F sc__law_listed_right (fun vs H Q E h => ?_) (fun cdv A outer s H vs Q E hgd hr h => ?_)
  · obtain ⟨d, l, cc, la, c, E, rfl, h⟩ := h
    rfl
  · obtain ⟨d, l, cc, la, c, En, rfl, h⟩ := h
    refine ⟨_, 
      (pss_cons (ps_set (i := 2) sc__law_listed_right.nd rfl (by first | exact Or.inl rfl | exact Or.inr rfl) (cl0 C__law_all_woven hr (by decide) (by rfl) (pa_cons (pv 1) (pa_cons (pe_op op_pow pe_int pe_int) pa_nil))))
      (pss_cons (ps_if (PW.pt (pw_or (pt_cmpR op_ne (pe_callB (crRep hgd hr.units) (by rfl) T.f_repr (by decide +kernel) (pa_cons (clN C_how_many hr (by decide) (by rfl) (pa_cons (pv 1) pa_nil)) pa_nil)) (pe_callB (crRep hgd hr.units) (by rfl) T.f_repr (by decide +kernel) (pa_cons (pe_callB (crLen K) (by rfl) T.f_len PySem.boot_len (pa_cons (pv 2) pa_nil)) pa_nil)) (nomark _)) (pw_or1 (pt_cmpR (opNe K hr.units) (clR R_how_many hr (by decide) (by rfl) (pk_cons (pv 1) pk_nil)) (pe_callB (crLen K) (by rfl) T.f_len PySem.boot_len (pa_cons (pv 2) pa_nil)) (nomark _)))))
      (pss_one (ps_ret pe_bl)) pss_nil)
      (pss_cons (ps_if (PW.pt (pw_or (pt_cmpR op_ne (pe_callB (crRep hgd hr.units) (by rfl) T.f_repr (by decide +kernel) (pa_cons (clN C_least_weaving hr (by decide) (by rfl) (pa_cons (pv 1) pa_nil)) pa_nil)) (pe_callB (crRep hgd hr.units) (by rfl) T.f_repr (by decide +kernel) (pa_cons (pe_ix (ixL K) (pv 2) pe_int (fun _ _ => rfl)) pa_nil)) (nomark _)) (pw_or1 (pt_cmpR (opNe K hr.units) (clR R_least_weaving hr (by decide) (by rfl) (pk_cons (pv 1) pk_nil)) (pe_ix (ixL K) (pv 2) pe_int (fun _ _ => rfl)) (nomark _)))))
      (pss_one (ps_ret pe_bl)) pss_nil)
      (pss_cons (ps_for PassesOwn.never rfl (piL K (pe_op op_cat (pe_lst (pa_cons pe_int (pa_cons (pe_op op_sub (pe_callB (crLen K) (by rfl) T.f_len PySem.boot_len (pa_cons (pv 2) pa_nil)) pe_int) pa_nil))) (pe_lc (own := [("_law_lap", 4)]) (by rfl) sc__law_listed_right.nd (pi_range1 (by rfl) T.f_range (pa_cons pe_int pa_nil)) (blkOk_by (by kernel_rfl)) (fun _ _ _ _ _ => (pg_name (i := 4) sc__law_listed_right.nd rfl (by first | exact Or.inl rfl | exact Or.inr rfl))) (fun _ _ _ _ _ => pts_nil) (fun _ _ _ _ _ => (cl0 C__law_take hr (by decide) (by rfl) (pa_cons (pv 0) (pa_cons (pe_callB (crLen K) (by rfl) T.f_len PySem.boot_len (pa_cons (pv 2) pa_nil)) pa_nil))))))) (pg_name (i := 3) sc__law_listed_right.nd rfl (by first | exact Or.inl rfl | exact Or.inr rfl))
      (pss_cons (ps_par (i := 5) (j := 6) (by rfl) sc__law_listed_right.nd rfl rfl (by decide) rfl rfl (pa_cons (pe_ix (ixL K) (pv 2) (pv 3) (fun _ _ => rfl)) (pa_cons (pe_ifExp (pt_cmpR op_lt (pe_op op_add (pv 3) pe_int) (pe_callB (crLen K) (by rfl) T.f_len PySem.boot_len (pa_cons (pv 2) pa_nil)) (nomark _)) (pe_ix (ixL K) (pv 2) (pe_op op_add (pv 3) pe_int) (fun _ _ => rfl)) pe_non) pa_nil)) (by rfl))
      (pss_cons (ps_if (PW.pt (pw_or (pt_cmpR op_ne (pe_callB (crRep hgd hr.units) (by rfl) T.f_repr (by decide +kernel) (pa_cons (clN C_weaving_at hr (by decide) (by rfl) (pa_cons (pv 1) (pa_cons (pv 3) pa_nil))) pa_nil)) (pe_callB (crRep hgd hr.units) (by rfl) T.f_repr (by decide +kernel) (pa_cons (pv 5) pa_nil)) (nomark _)) (pw_or1 (pt_cmpR (opNe K hr.units) (clR R_weaving_at hr (by decide) (by rfl) (pk_cons (pv 3) (pk_cons (pv 1) pk_nil))) (pv 5) (nomark _)))))
      (pss_one (ps_ret pe_bl)) pss_nil)
      (pss_cons (ps_if (PW.pt (pw_or (pt_cmpR op_ne (pe_callB (crRep hgd hr.units) (by rfl) T.f_repr (by decide +kernel) (pa_cons (clN C_place_of hr (by decide) (by rfl) (pa_cons (pv 1) (pa_cons (pv 5) pa_nil))) pa_nil)) (pe_callB (crRep hgd hr.units) (by rfl) T.f_repr (by decide +kernel) (pa_cons (pv 3) pa_nil)) (nomark _)) (pw_or1 (pt_cmpR (opNe K hr.units) (clR R_place_of hr (by decide) (by rfl) (pk_cons (pe_callTy (crListOf K) (by rfl) T.f_list (by decide +kernel) (pa_cons (pv 5) pa_nil)) (pk_cons (pv 1) pk_nil))) (pv 3) (nomark _)))))
      (pss_one (ps_ret pe_bl)) pss_nil)
      (pss_one (ps_if (PW.pt (pw_or (pt_cmpR op_ne (pe_callB (crRep hgd hr.units) (by rfl) T.f_repr (by decide +kernel) (pa_cons (clN C_next_weaving hr (by decide) (by rfl) (pa_cons (pv 1) (pa_cons (pe_callTy (crListOf K) (by rfl) T.f_list (by decide +kernel) (pa_cons (pv 5) pa_nil)) pa_nil))) pa_nil)) (pe_callB (crRep hgd hr.units) (by rfl) T.f_repr (by decide +kernel) (pa_cons (pv 6) pa_nil)) (nomark _)) (pw_or1 (pt_cmpR (opNe K hr.units) (clR R_next_weaving hr (by decide) (by rfl) (pk_cons (pv 5) (pk_cons (pv 1) pk_nil))) (pv 6) (nomark _)))))
      (pss_one (ps_ret pe_bl)) pss_nil))))))
      (pss_one (ps_ret pe_bl))))))
      , ?_⟩
    obtain ⟨hd, hL, ok, hsum, hT, k⟩ := h
    have few : Few c := few8 ok.len hsum
    have hW64 : W c En zero4 ≤ 65536 := by
      rw [← every_length]
      exact Nat.le_trans (every_le c En) (pow4 hsum)
    have hWp : 0 < W c En zero4 := W_pos ok.good (Le.zero ok.len)
    refine ⟨_, rfl, 10, 9, rfl, rfl, ⟨by decide, by decide, by decide⟩, la, c, En, rfl, hL, ok.len, ok.ein, ok.few, hsum, fun H1 ep vs f1 hep0 hep hR => ?_⟩
    have vlen : vs.length = W c En zero4 := by rw [Paired.length hR, every_length]
    have hL1 := hL.fr f1
    have hT1 := f1.tabs hT
    -- how_many
    refine ⟨_, rfl, _, rfl, .inr ⟨la, c, En, rfl, hL1, ok, hT1, fun _ H2 f2 => ?_, fun nf => absurd few nf⟩⟩
    refine ⟨_, _, rfl, .int _, repI (by omega), ?_⟩
    refine ⟨_, rfl, ep, vs, rfl, .inl (SqL.of (f2.lst0 hep)), _, _, rfl, .int _, repI (by omega), rfl, _, rfl, ?_⟩
    rw [neF (by rw [vlen])]
    refine iteF ?_
    refine ⟨_, rfl, _, rfl, .inr ⟨la, c, En, rfl, hL1.fr f2, ok, f2.tabs hT1, fun _ H3 f3 => ?_, fun nf => absurd few nf⟩⟩
    have f13 := f2.trans f3
    refine ⟨_, rfl, ep, vs, rfl, .inl (SqL.of (f13.lst0 hep)), ne_same (d := .int (W c En zero4 : Int)) (.int _) (by rw [vlen]; exact .int _) (repI (by omega)) ⟨_, rfl, iteF ?_⟩⟩
    -- least_weaving
    have hhead : (every c En)[0]? = some (wv c En (rem c zero4) zero4) := by
      rw [every_rem]
      exact head_allW ok.good (Le.zero ok.len) rfl
    obtain ⟨u0, hu0, p0, eu0, hp0⟩ : ∃ u0, vs[0]? = some u0 ∧ ∃ p0, u0 = .ref p0 ∧ FzAt H1 p0 (wv c En (rem c zero4) zero4) := by
      obtain ⟨u0, hu, p0, e, h⟩ := Paired.at2 hR hhead
      exact ⟨u0, hu, p0, e, h⟩
    subst eu0
    obtain ⟨g1, g2, g3, g4, g5⟩ := everyGood ok (List.mem_of_getElem? hhead)
    have hrep0 : RepOk (.tuple (nD (wv c En (rem c zero4) zero4))) := repT (by omega) g3
    refine ⟨_, rfl, _, rfl, .inr ⟨la, c, En, rfl, hL1.fr f13, ok, fun _ H4 q4 f4 hq4 => ?_, fun nf => absurd few nf⟩⟩
    have f14 := f13.trans f4
    refine ⟨_, _, rfl, dpTup (SqT.of hq4), hrep0, ?_⟩
    refine ⟨_, rfl, ep, vs, 0, _, rfl, rfl, SqL.of (f14.lst0 hep), atI_nat (j := 0) hu0, _, _, rfl, dpTup (f14.fz0 hp0).sq, hrep0, rfl, _, rfl, ?_⟩
    rw [neF rfl]
    refine iteF ?_
    refine ⟨_, rfl, _, rfl, .inr ⟨la, c, En, rfl, hL1.fr f14, ok, fun _ H5 q5 f5 hq5 => ?_, fun nf => absurd few nf⟩⟩
    have f15 := f14.trans f5
    refine ⟨_, rfl, ep, vs, 0, _, rfl, rfl, SqL.of (f15.lst0 hep), atI_nat (j := 0) hu0, ne_same (dpTup (SqT.of hq5)) (dpTup (f15.fz0 hp0).sq) hrep0 ⟨_, rfl, iteF ?_⟩⟩
    -- the numbers
    refine ⟨_, rfl, ep, vs, rfl, .inl (SqL.of (f15.lst0 hep)), _, _, rfl, rfl, by show 2 ≤ sizeLine; decide, fun n1 hn1 => ?_⟩
    have ne1 := hd.new hep0
    have hd1 := hd.fr (S := []) f1
    have hd5 := hd1.fr (S := []) f15
    have f6 : Fr Tb [] H5 (upd H5 n1 (.lst [.int 0, .int ((vs.length : Int) - 1)])) := Fr.new hn1
    have hn6 : upd H5 n1 (.lst [.int 0, .int ((vs.length : Int) - 1)]) n1 = some (.lst (nIs [0, W c En zero4 - 1])) := by
      rw [upd_same, vlen, show ((W c En zero4 : Nat) : Int) - 1 = ((W c En zero4 - 1 : Nat) : Int) by omega]
      rfl
    generalize upd H5 n1 (.lst [.int 0, .int ((vs.length : Int) - 1)]) = H6 at f6 hn6 ⊢
    have hd6 := hd5.fr (S := []) f6
    have f16 := f15.trans f6
    have hep6 := f16.lst0 hep
    have nn1 := hd5.new hn1
    refine ⟨4, rfl, by decide, by decide, fun D hD => lc_range (lo := 0) (n := 4) (fun i H' => Fr Tb [d, l] H6 H' ∧ DrawAt H' d l cc ∧ ∃ ws, H' D = some (.lst (nIs ws)) ∧ ws.length ≤ i ∧ ∀ n ∈ ws, n < W c En zero4) ⟨Fr.new hD, hd6.put (hd6.new hD), [], upd_same, Nat.le_refl _, by simp⟩ ?_ ?_⟩
    · rintro i H' hi ⟨f7, hd7, ws, hD7, hwl, hw⟩
      have nD := hd6.new hD
      have hep7 := f7.lst hep6 (by simp [ne1.1, ne1.2.1])
      refine ⟨rfl, yes_lc ⟨_, rfl, _, rfl, ep, vs, rfl, .inl (SqL.of hep7), d, l, cc, (vs.length : Int), rfl, hd7, by omega, by omega, fun H8 v f8 hd8 hv => ?_⟩⟩
      have hD8 := f8.lst hD7 (by simp [nD.1, nD.2.1])
      refine ⟨_, hD8, ?_, (f7.trans f8).lstw (.inl hD) hD8, hd8.put nD, ws ++ [v], by rw [upd_same]; simp [nIs], by rw [List.length_append, List.length_singleton]; omega, fun u hu => ?_⟩
      · rw [List.length_map]
        exact Nat.lt_of_le_of_lt (by omega : ws.length ≤ 9) (by decide)
      · rcases List.mem_append.mp hu with h | h
        · exact hw u h
        · rw [List.mem_singleton.mp h]
          omega
    rintro H7 ⟨f7, hd7, ws, hD7, hwl, hw⟩
    have hn7 := f7.lst hn6 (by simp [nn1.1, nn1.2.1])
    refine ⟨n1, D, _, _, rfl, rfl, hn7, hD7, by
      rw [List.length_map, List.length_map]
      exact Nat.le_trans (by simp; omega : _ ≤ 10) (by decide), fun nl hnl => ?_⟩
    have el : nIs [0, W c En zero4 - 1] ++ nIs ws = nIs (0 :: (W c En zero4 - 1) :: ws) := rfl
    rw [el]
    have hns : ∀ n ∈ (0 :: (W c En zero4 - 1) :: ws), n < W c En zero4 := fun n hn => by
      rcases List.mem_cons.mp hn with rfl | hn
      · exact hWp
      · rcases List.mem_cons.mp hn with rfl | hn
        · omega
        · exact hw n hn
    generalize 0 :: (W c En zero4 - 1) :: ws = ns at hns ⊢
    have f8 : Fr Tb [] H7 (upd H7 nl (.lst (nIs ns))) := Fr.new hnl
    have hn8 : upd H7 nl (.lst (nIs ns)) nl = some (.lst (nIs ns)) := upd_same
    generalize upd H7 nl (.lst (nIs ns)) = H8 at f8 hn8 ⊢
    have hd8 := hd7.fr (S := []) f8
    have f18 : Fr Tb [d, l] H1 H8 := (f16.tr f7).trans f8.mono
    have hep8 := f18.lst hep (by simp [ne1.1, ne1.2.1])
    have hT8 := f18.tabs hT1
    have ndl : ∀ (b : Addr) (o : HO), H1 b = some o → (∀ xs, o ≠ .lst xs) → (∀ xs, o ≠ .dK xs) → b ∉ [d, l] := fun b o hb h1 h2 => by
      obtain ⟨r, t, ls, zs, q1, q2, q3, q4⟩ := hd1
      simp [ne_of hb q1 (h2 _), ne_of hb q2 (h1 _)]
    have hL8 : LedAt H8 la c En := by
      obtain ⟨ca, ea, es, q1, q2, q3, q4⟩ := hL1
      have tk : ∀ b xs, H1 b = some (.tup xs) → H8 b = some (.tup xs) := fun b xs q => f18.tup q (ndl b _ q (fun _ z => by cases z) fun _ z => by cases z)
      exact ⟨ca, ea, es, tk _ _ q1, tk _ _ q2, tk _ _ q3, q4.fr fun b e ⟨x, y, z1, z2, z3⟩ => ⟨x, y, tk _ _ z1, tk _ _ z2, tk _ _ z3⟩⟩
    have hR8 : Refs FzAt H8 vs (every c En) := hR.fr fun b w q => f18.fz q (by
      obtain ⟨o, q1, q2⟩ := q
      exact ndl b _ q2 (fun _ z => by cases z) fun _ z => by cases z)
    refine ⟨nl, rfl, ⟨_, SqL.of hn8⟩, for_list (K := K) (a := nl) (xs := nIs ns) (fun i σ H' => ∃ x3 x5 x6, σ = [some (.ref d), some (.ref la), some (.ref ep), x3, none, x5, x6] ∧ Fr Tb [] H8 H') ⟨none, none, none, rfl, .refl⟩ (fun i σ H' _ ⟨_, _, _, _, f⟩ => SqL.of (f.lst0 hn8)) ?_ ?_⟩
    · rintro i x σ H9 hx ⟨x3, x5, x6, rfl, f9⟩
      obtain ⟨n, hn, rfl⟩ := nIs_at hx
      have hnW := hns n (List.mem_of_getElem? hn)
      obtain ⟨lw, hlw⟩ : ∃ lw, (every c En)[n]? = some lw := ⟨_, List.getElem?_eq_getElem (by rw [every_length]; exact hnW)⟩
      obtain ⟨u1, hu1, pn, rfl, hpn⟩ := Paired.at2 hR8 hlw
      obtain ⟨k1, k2, k3, k4, k5⟩ := everyGood ok (List.mem_of_getElem? hlw)
      have hnx := nxt_at ok.good (Le.zero ok.len) (n := c.sum) (by unfold rem zero4; simp) hlw
      obtain ⟨y, dd, hy1, hy2, hyd, hrepd, hnxd⟩ : ∃ (y : V) (dd : PyData), (n + 1 < W c En zero4 → vs[n + 1]? = some y) ∧ (¬ n + 1 < W c En zero4 → y = .non) ∧ (∀ H', Fr Tb [] H8 H' → Dp K H' y dd) ∧ RepOk dd ∧ ((nxt c En zero4 lw = none ∧ dd = .none) ∨ ∃ l', nxt c En zero4 lw = some l' ∧ dd = .tuple (nD l')) := by
        by_cases hlt : n + 1 < W c En zero4
        · obtain ⟨l2, hl2⟩ : ∃ l2, (every c En)[n + 1]? = some l2 := ⟨_, List.getElem?_eq_getElem (by rw [every_length]; exact hlt)⟩
          obtain ⟨u2, hu2, p2, rfl, hp2⟩ := Paired.at2 hR8 hl2
          obtain ⟨_, z2, z3, _, _⟩ := everyGood ok (List.mem_of_getElem? hl2)
          exact ⟨.ref p2, _, fun _ => hu2, fun h => absurd hlt h, fun H' f => dpTup (f.fz0 hp2).sq, repT (by omega) z3, .inr ⟨l2, by rw [hnx]; exact hl2, rfl⟩⟩
        · exact ⟨.non, .none, fun h => absurd h hlt, fun _ => rfl, fun _ _ => .non, .inl rfl, .inl ⟨by rw [hnx]; exact List.getElem?_eq_none (by show (every c En).length ≤ _; rw [every_length]; omega), rfl⟩⟩
      have hW0 : ∀ {H'}, Fr Tb [] H8 H' → Tabs Tb H' := fun f => f.tabs hT8
      have few' := few
      have hrepn : RepOk (.int (n : Int)) := repI (by omega)
      have hrepl : RepOk (.tuple (nD lw)) := repT (by omega) k3
      have hth : isTh (nI n) ((W c En zero4 : Int) - 1) = true := decide_eq_true (by omega)
      have hplc : plc c En zero4 lw = n := plc_at (n := c.sum) (Le.zero ok.len) (by unfold rem zero4; simp) hlw
      have gw : ∀ {H' b}, WvAt H' b lw → GoodWv H' c En (.ref b) b lw := fun h => ⟨rfl, h, by omega, k3, k4⟩
      -- told, due
      have shr : ∀ {b : Bool} {A B G : Prop}, (b = true → G → A) → (b = false → G → B) → G → if b = true then A else B := fun {b A B G} h1 h2 g => by
        cases b with
        | true => exact iteT (h1 rfl g)
        | false => exact iteF (h2 rfl g)
      refine ⟨_, rfl, _, rfl, ep, vs, _, _, rfl, rfl, SqL.of (f9.lst0 hep8), atI_nat hu1, _, rfl, _, _, rfl, rfl, _, rfl, ep, vs, rfl, .inl (SqL.of (f9.lst0 hep8)), _, _, rfl, rfl, _, rfl, ?_⟩
      refine shr (fun hb g => ⟨_, rfl, _, rfl, _, _, rfl, rfl, ep, vs, _, y, rfl, rfl, SqL.of (f9.lst0 hep8), atI_nat (hy1 (by have := of_decide_eq_true hb; omega)), g⟩) (fun hb g => by
        have e := hy2 (by have := of_decide_eq_false hb; omega)
        rw [e] at g
        exact g) ?_
      refine ⟨_, _, rfl, ?_⟩
      -- weaving_at
      refine ⟨_, rfl, _, rfl, _, _, rfl, .inr ⟨la, c, En, rfl, hL8.fr f9, ok, hW0 f9, ⟨_, .int _⟩, fun nf => absurd few nf, fun _ hf => absurd (hth.symm.trans hf) (by simp), fun _ n2 hn2 hnw l0 hl0 H10 wp f10 hwp => ?_⟩⟩
      obtain rfl : n2 = n := by injection hn2 with z; omega
      rw [hlw] at hl0
      cases hl0
      have f810 := f9.trans f10
      refine ⟨_, _, rfl, dpTup hwp.sq, hrepl, ?_⟩
      refine ⟨_, rfl, _, _, rfl, dpTup (f810.fz0 hpn).sq, hrepl, rfl, _, rfl, ?_⟩
      rw [neF rfl]
      refine iteF ?_
      refine ⟨_, rfl, _, rfl, _, _, rfl, .inr ⟨la, c, En, rfl, hL8.fr f810, ok, hW0 f810, ⟨_, .int _⟩, fun nf => absurd few nf, fun _ hf => absurd (hth.symm.trans hf) (by simp), fun _ n3 hn3 hnw3 l0 hl0 H11 wp2 f11 hwp2 => ?_⟩⟩
      obtain rfl : n3 = n2 := by injection hn3 with z; omega
      rw [hlw] at hl0
      cases hl0
      have f811 := f810.trans f11
      refine ⟨_, rfl, ne_same (dpTup hwp2.sq) (dpTup (f811.fz0 hpn).sq) hrepl ⟨_, rfl, iteF ?_⟩⟩
      -- place_of
      refine ⟨_, rfl, _, rfl, _, _, rfl, .inr ⟨la, c, En, rfl, hL8.fr f811, ok, hW0 f811, .inr ⟨pn, lw, gw (.inr (f811.fz0 hpn)), fun nf => absurd few nf, fun _ H12 f12 => ?_⟩⟩⟩
      rw [hplc]
      have f812 := f811.trans f12
      refine ⟨_, _, rfl, .int _, hrepn, _, rfl, _, _, rfl, .int _, hrepn, rfl, _, rfl, ?_⟩
      rw [neF rfl]
      refine iteF ?_
      refine ⟨_, rfl, pn, _, rfl, .inr (f812.fz0 hpn).sq, fun lp hlp => ?_⟩
      have f13 : Fr Tb [] H12 (upd H12 lp (.lst (nIs lw))) := Fr.new hlp
      have hl13 : upd H12 lp (.lst (nIs lw)) lp = some (.lst (nIs lw)) := upd_same
      generalize upd H12 lp (.lst (nIs lw)) = H13 at f13 hl13 ⊢
      have f813 := f812.trans f13
      refine ⟨_, rfl, _, _, rfl, .inr ⟨la, c, En, rfl, hL8.fr f813, ok, hW0 f813, .inr ⟨lp, lw, gw (.inl hl13), fun nf => absurd few nf, fun _ H14 f14 => ?_⟩⟩⟩
      rw [hplc]
      have f814 := f813.trans f14
      refine ⟨_, rfl, ne_same (.int _) (.int _) hrepn ⟨_, rfl, iteF ?_⟩⟩
      -- next_weaving
      refine ⟨_, rfl, _, rfl, pn, _, rfl, .inr (f814.fz0 hpn).sq, fun lp2 hlp2 => ?_⟩
      have f15' : Fr Tb [] H14 (upd H14 lp2 (.lst (nIs lw))) := Fr.new hlp2
      have hl15 : upd H14 lp2 (.lst (nIs lw)) lp2 = some (.lst (nIs lw)) := upd_same
      generalize upd H14 lp2 (.lst (nIs lw)) = H15 at f15' hl15 ⊢
      have f815 := f814.trans f15'
      rcases hnxd with ⟨hno, rfl⟩ | ⟨l', hl', rfl⟩
      · refine ⟨_, _, rfl, .inr ⟨la, c, En, rfl, hL8.fr f815, ok, .inr ⟨lp2, lw, gw (.inl hl15), fun nf => absurd few nf, fun _ => ⟨fun _ H16 f16 => ?_, fun l' hl' => by rw [hno] at hl'; cases hl'⟩⟩⟩⟩
        have f816 := f815.trans f16
        refine ⟨_, _, rfl, .non, hrepd, _, rfl, _, _, rfl, hyd _ f816, hrepd, rfl, _, rfl, ?_⟩
        rw [neF rfl]
        refine iteF ⟨_, rfl, _, rfl, _, _, rfl, .inr ⟨la, c, En, rfl, hL8.fr f816, ok, .inr ⟨pn, lw, gw (.inr (f816.fz0 hpn)), fun nf => absurd few nf, fun _ => ⟨fun _ H17 f17 => ?_, fun l' hl' => by rw [hno] at hl'; cases hl'⟩⟩⟩⟩
        exact ⟨_, rfl, ne_same .non (hyd _ (f816.trans f17)) hrepd ⟨_, rfl, iteF ⟨_, _, _, rfl, f816.trans f17⟩⟩⟩
      · refine ⟨_, _, rfl, .inr ⟨la, c, En, rfl, hL8.fr f815, ok, .inr ⟨lp2, lw, gw (.inl hl15), fun nf => absurd few nf, fun _ => ⟨fun hno => (by rw [hl'] at hno; cases hno), fun l2 hl2 H16 qp f16 hqp => ?_⟩⟩⟩⟩
        rw [hl'] at hl2
        cases hl2
        have f816 := f815.trans f16
        refine ⟨_, _, rfl, dpTup (SqT.of hqp), hrepd, _, rfl, _, _, rfl, hyd _ f816, hrepd, rfl, _, rfl, ?_⟩
        rw [neF rfl]
        refine iteF ⟨_, rfl, _, rfl, _, _, rfl, .inr ⟨la, c, En, rfl, hL8.fr f816, ok, .inr ⟨pn, lw, gw (.inr (f816.fz0 hpn)), fun nf => absurd few nf, fun _ => ⟨fun hno => (by rw [hl'] at hno; cases hno), fun l2 hl2 H17 qp2 f17 hqp2 => ?_⟩⟩⟩⟩
        rw [hl'] at hl2
        cases hl2
        exact ⟨_, rfl, ne_same (dpTup (SqT.of hqp2)) (hyd _ (f816.trans f17)) hrepd ⟨_, rfl, iteF ⟨_, _, _, rfl, f816.trans f17⟩⟩⟩
    · rintro σ H9 ⟨x3, x5, x6, rfl, f9⟩
      exact k H9 ((f1.tr f18).trans f9.mono) (hd8.fr (S := []) f9)
end
end K81
set_option maxHeartbeats 4000000
namespace K81
open PySem PySem.Spec PyProof.Rows L2 LamX K81M StX RZ
/-! ### a def of the module, held in a slot -/
structure ClAt (P : Program) (w : World) (K : PySem.W.Frag) (mg : Str → Option Value) (base : Heap) (k : Nat) (f : Addr) (sp : Sp) : Prop where
  ex : ∃ (fd : FuncData) (ps : List Str), PySem.W.keepIn K (.ref f) = true ∧ Binds K fd ps [] ∧ FnOk P w K mg base (L2.CX P w) k f fd ps sp
theorem Cl.at' {P : Program} {w : World} {K : PySem.W.Frag} {mg : Str → Option Value} {base : Heap} {k : Nat} {x : Str} {sp : Sp} (c : Cl P w K mg base (L2.CX P w) k x sp) : ∃ f, mg x = some (.ref f) ∧ ClAt P w K mg base k f sp := by
  obtain ⟨f, fd, ps, h1, h2, h3, h4⟩ := c.ex
  exact ⟨f, h1, fd, ps, h2, h3, h4⟩
def tClV (i : Nat) (f : Addr) (sp : Sp) (E : XK) (t : TA) : TE := fun σ H Q => σ[i]? = some (some (.ref f)) ∧ t σ H fun vs H1 => sp vs H1 Q E
section
variable {X : Cx} {k j i : Nat} {f : Addr} {x : Str} {sp : Sp} {e : Expr} {es : List Expr} {t : TA} {p pos : Pos} {E : XK} {K : PySem.W.Frag}
theorem clV (c : ClAt X.prog X.w X.K X.mg X.base k f sp) (hr : Room j X.A) (hk : k ≤ j) (hN : X.N[i]? = some x) (hv : Vis X.env.scope x) (hx : Passes (L2.CX X.prog X.w) X E) (ha : PA X (e :: es) t)
    (hdb : (x == ("__debug__" : Str)) = false := by decide) (hcd : (x == ("__classdict__" : Str)) = false := by decide)
    (he : starEach (e :: es) X.env = (false, eval e X.env) :: starEach es X.env := by rfl) (hpl : (backTo pos (starEach es X.env)).any (·.1) = false := by rfl) : PE X (.Call (.Name x p) (e :: es) [] pos) (tClV i f sp E t) := by
  obtain ⟨fd, ps, hkp, hb, F⟩ := c.ex
  refine ⟨fun pins s σ H Q I h => (pe_callL (i := i) (f := f) (sp := sp) (dvs := []) (E := E) F (hr.mono hk) hN hv hkp hb .nil hx ha hdb hcd he hpl).run pins s σ H Q I ⟨h.1, ?_⟩⟩
  have e0 : (fun (vs : List V) (H1 : Hp) => sp (vs ++ []) H1 Q E) = fun vs H1 => sp vs H1 Q E := by
    funext vs H1
    rw [List.append_nil]
  show t σ H (fun vs H1 => sp (vs ++ []) H1 Q E)
  rw [e0]
  exact h.2
theorem ckIsX (K : PySem.W.Frag) (h : X.K = K := by rfl) : CallR X (.builtin "isinstance") (rIsX K) := h ▸ ck_isX
theorem peXfV {e : Expr} {te : TE} {pos : Pos} {n : Str} (K : PySem.W.Frag) (he : PE X e te) (hb : attributeBase e n X.env (eval e X.env) = eval e X.env := by rfl) (h : X.K = K := by rfl) : PE X (.Attribute e n pos) (tXfV K n te) := h ▸ pe_xfV he hb
end
/-! ### what stands though only ExtN is known -/
section
variable {T : List (Addr × Str)} {H H1 H' : Hp} {a : Addr}
structure Kx (H H' : Hp) : Prop where
  ext : ∀ b o, H b = some o → (∀ ps, o ≠ .tbl ps) → H' b = some o
theorem Kx.of (x : ExtN H H') : Kx H H' := ⟨x⟩
theorem Fr.x (f : Fr T [] H H') : Kx H H' := ⟨fun b o h n => f.ext b o h (by simp) n⟩
theorem Kx.refl : Kx H H := ⟨fun _ _ h _ => h⟩
theorem Kx.tr (a : Kx H H1) (b : Kx H1 H') : Kx H H' := ⟨fun c o h n => b.ext c o (a.ext c o h n) n⟩
theorem Kx.new {p : Addr} {o : HO} (h : H p = none) : Kx H (upd H p o) := ⟨fun b u e _ => by rw [upd_ne (ne_of_none e h)]; exact e⟩
theorem Kx.tup {xs : List V} (x : Kx H H') (h : H a = some (.tup xs)) : H' a = some (.tup xs) := x.ext a _ h fun _ z => by cases z
theorem Kx.lst {xs : List V} (x : Kx H H') (h : H a = some (.lst xs)) : H' a = some (.lst xs) := x.ext a _ h fun _ z => by cases z
theorem Kx.fz {xs : List V} (x : Kx H H') (h : FzT H a xs) : FzT H' a xs := by
  obtain ⟨o, h1, h2⟩ := h
  exact ⟨o, h1, x.ext a _ h2 fun _ z => by cases z⟩
theorem Kx.nm {n : Nm} (x : Kx H H') (h : NmAt H a n) : NmAt H' a n := x.tup h
theorem Kx.en {e : En} (x : Kx H H') (h : EnAt H a e) : EnAt H' a e := by
  obtain ⟨p, q, h1, h2, h3⟩ := h
  exact ⟨p, q, x.tup h1, x.nm h2, x.nm h3⟩
theorem Kx.led {c : List Nat} {E : List En} (x : Kx H H') (h : LedAt H a c E) : LedAt H' a c E := by
  obtain ⟨ca, ea, vs, h1, h2, h3, h4⟩ := h
  exact ⟨ca, ea, vs, x.tup h1, x.tup h2, x.tup h3, h4.fr fun a e q => x.en q⟩
theorem Kx.draw {d l c : Addr} (x : Kx H H') (h : DrawAt H d l c) : DrawAt H' d l c := by
  obtain ⟨r, t, ls, zs, h1, h2, h3, h4⟩ := h
  exact ⟨r, t, ls, zs, x.ext d _ h1 fun _ z => (by cases z), x.lst h2, x.lst h3, h4⟩
theorem Kx.sq {xs : List V} (x : Kx H H') (h : SqAt H a xs) : SqAt H' a xs := by
  rcases h with h | h | h
  · exact .inl (x.lst h)
  · exact .inr (.inl (x.tup h))
  · exact .inr (.inr (x.fz h))
theorem Kx.wv {l : List Nat} (x : Kx H H') (h : WvAt H a l) : WvAt H' a l := by
  rcases h with h | h
  · exact .inl (x.lst h)
  · exact .inr (x.fz h)
theorem Kx.refs {vs : List V} {ws : List (List Nat)} (x : Kx H H') (h : Refs FzAt H vs ws) : Refs FzAt H' vs ws := h.fr fun a w q => x.fz q
/-- tracked but written by a draw -/
structure KpS (d l : Addr) (H H' : Hp) : Prop where
  ext : ∀ b o, H b = some o → b ≠ d → b ≠ l → (∀ ps, o ≠ .tbl ps) → H' b = some o
theorem KpS.of {d l : Addr} (f : Fr T [d, l] H H') : KpS d l H H' := ⟨fun b o h h1 h2 n => f.ext b o h (by simp [h1, h2]) n⟩
end
end K81
set_option maxHeartbeats 8000000
namespace K81
open PySem PySem.Spec PyProof.Rows L2 LamX K81M StX RZ
theorem un65 {k : Nat} {A : Around} (hr : Room k A) : A.units + 65 < cLine := by have := hr.un; omega
theorem opNotIn {X : Cx} (K : PySem.W.Frag) (hu : X.A.units + 65 < cLine) (h : X.K = K := by rfl) : OpR X (compareOp .NotIn) (rNotInD K) := h ▸ op_notInD hu
structure ExF (K : PySem.W.Frag) (mg : Str → Option Value) (CS : Addr) (x : Str) (C : Addr) : Prop where
  g : mg x = some (.ref C)
  exc : ExcC K C
  m : PySem.W.exmOne K (.ref C) (.ref CS) = some true
theorem drTup {T : List (Addr × Str)} {H H' : Hp} {d l cc b : Addr} {xs : List V} (hd : DrawAt H d l cc) (f : Fr T [d, l] H H') (h : H b = some (.tup xs)) : H' b = some (.tup xs) := by
  obtain ⟨r, t, ls, zs, q1, q2, q3, q4⟩ := hd
  exact f.tup h (by simp [ne_of h q1 (by intro z; cases z), ne_of h q2 (by intro z; cases z)])
theorem drLst {T : List (Addr × Str)} {H H' : Hp} {d l cc b : Addr} {xs : List V} (hd : DrawAt H d l cc) (f : Fr T [d, l] H H') (n : b ≠ l) (h : H b = some (.lst xs)) : H' b = some (.lst xs) := by
  obtain ⟨r, t, ls, zs, q1, q2, q3, q4⟩ := hd
  exact f.lst h (by simp [ne_of h q1 (by intro z; cases z), n])
theorem drFz {T : List (Addr × Str)} {H H' : Hp} {d l cc b : Addr} {xs : List V} (hd : DrawAt H d l cc) (f : Fr T [d, l] H H') (h : FzT H b xs) : FzT H' b xs := by
  obtain ⟨r, t, ls, zs, q1, q2, q3, q4⟩ := hd
  obtain ⟨o, h1, h2⟩ := h
  exact f.fz ⟨o, h1, h2⟩ (by simp [ne_of h2 q1 (by intro z; cases z), ne_of h2 q2 (by intro z; cases z)])
theorem drLed {T : List (Addr × Str)} {H H' : Hp} {d l cc b : Addr} {c : List Nat} {E : List En} (hd : DrawAt H d l cc) (f : Fr T [d, l] H H') (h : LedAt H b c E) : LedAt H' b c E := by
  obtain ⟨ca, ea, vs, h1, h2, h3, h4⟩ := h
  exact ⟨ca, ea, vs, drTup hd f h1, drTup hd f h2, drTup hd f h3, h4.fr fun a e ⟨p, q, g1, g2, g3⟩ => ⟨p, q, drTup hd f g1, drTup hd f g2, drTup hd f g3⟩⟩
theorem Kx.ty {H H' : Hp} {v : V} {t : String} (x : Kx H H') (h : TyS H v t) : TyS H' v t := by
  cases h with
  | lst h => exact .lst (x.lst h)
  | tup h => exact .tup (x.tup h)
  | fz h => exact .fz (x.fz h)
  | int i => exact .int i
  | bl b => exact .bl b
  | str s => exact .str s
  | non => exact .non
theorem Kx.odd {H H' : Hp} {v : V} (x : Kx H H') (h : Odd H v) : Odd H' v := by
  rcases h with ⟨t, h1, h2⟩ | ⟨a, e, h⟩ | ⟨a, ca, c, e, h1, h2, h3⟩
  · exact .inl ⟨t, x.ty h1, h2⟩
  · exact .inr (.inl ⟨a, e, x.tup h⟩)
  · exact .inr (.inr ⟨a, ca, c, e, x.tup h1, x.tup h2, h3⟩)
theorem shapedE (e : En) : SeqAt.shaped (enD e) = true := by simp [enD, SeqAt.shaped, PyData.canLay0, PyData.canLayAll0, PyData.depth, PyData.depthAll]
theorem eqvE (a b : En) : PyData.eqv (enD a) (enD b) = decide (a = b) := by
  obtain ⟨⟨a1, a2⟩, a3, a4⟩ := a
  obtain ⟨⟨b1, b2⟩, b3, b4⟩ := b
  have e : PyData.eqv (enD ((a1, a2), a3, a4)) (enD ((b1, b2), b3, b4)) = decide (((a1 : Int) = b1 ∧ (a2 : Int) = b2) ∧ (a3 : Int) = b3 ∧ (a4 : Int) = b4) := by
    simp [enD, PyData.eqv, PyData.eqvAll]
    rfl
  rw [e]
  refine decide_eq_decide.mpr ?_
  simp only [Prod.mk.injEq]
  omega
theorem layLL : ∀ ls : List (List Nat), PyData.canLayAll0 (ls.map fun l => .tuple (nD l)) = true
  | [] => rfl
  | l :: ls => by
    rw [List.map_cons]
    simp only [PyData.canLayAll0]
    rw [layLL ls, SeqAt.canLay_of_shaped (shapedT l)]
    rfl
theorem depLL : ∀ ls : List (List Nat), PyData.depthAll (ls.map fun l => .tuple (nD l)) ≤ 1
  | [] => Nat.zero_le _
  | l :: ls => by
    rw [List.map_cons]
    simp only [PyData.depthAll, PyData.depth]
    rw [depthT]
    exact Nat.max_le.mpr ⟨Nat.le_refl _, depLL ls⟩
theorem shapedLL (ls : List (List Nat)) : SeqAt.shaped (.list (ls.map fun l => .tuple (nD l))) = true := by
  have h1 : (PyData.list (ls.map fun l => .tuple (nD l))).canLay0 = true := by simp only [PyData.canLay0]; exact layLL ls
  have h2 : (PyData.list (ls.map fun l => .tuple (nD l))).depth ≤ 64 := by
    simp only [PyData.depth]
    have := depLL ls
    omega
  unfold SeqAt.shaped
  rw [h1, decide_eq_true h2]
  rfl
theorem dpLL {K : PySem.W.Frag} {H : Hp} {a : Addr} {vs : List V} {ls : List (List Nat)} (ha : H a = some (.lst vs)) (h : Refs FzAt H vs ls) : Dp K H (.ref a) (.list (ls.map fun l => .tuple (nD l))) := by
  refine .lst (SqL.of ha) ?_
  clear ha
  induction h with
  | nil => exact .nil
  | cons r _ ih =>
    obtain ⟨p, rfl, hp⟩ := r
    exact .cons (dpTup hp.sq) ih
theorem anyLL (ls : List (List Nat)) (l : List Nat) : ((ls.map fun l => PyData.tuple (nD l)).any fun z => PyData.eqv z (.tuple (nD l))) = decide (l ∈ ls) := by
  induction ls with
  | nil => rfl
  | cons x ls ih =>
    rw [List.map_cons, List.any_cons, ih, eqvT]
    by_cases h : x = l
    · subst h; simp
    · have h2 : ¬ l = x := fun z => h z.symm
      simp [h, h2]
def cG : List Nat := [27, 27, 27, 0]
theorem okG : LedOk cG [] where
  len := rfl
  small := fun n hn => by
    simp only [cG, List.mem_cons, List.not_mem_nil, or_false] at hn
    rcases hn with rfl | rfl | rfl | rfl <;> decide
  ents := fun e he => by cases he
  apart := fun e he => by cases he
  sorted := fun i a b h => by cases h
  good := good_nil rfl
  few := Nat.zero_le _
theorem nfG : ¬ Few cG := by
  unfold Few cG
  decide
theorem isx_ok {H : Hp} {a C dx : Addr} {fld : Str} {v : V} (ha : H a = none) (hd : H dx = some (.xd [(fld, v)])) : upd H a (ExD (.ref C) (some dx) a) dx = some (.xd [(fld, v)]) := by rw [upd_ne (ne_of_none hd ha)]; exact hd
def wG1 : List Nat := (List.replicate 27 [0, 1, 2]).flatten
def wG2 : List Nat := List.replicate 27 2 ++ List.replicate 27 1 ++ List.replicate 27 0
theorem good1 {H : Hp} {b : Addr} (h : FzT H b (nIs wG1)) : GoodWv H cG [] (.ref b) b wG1 := ⟨rfl, .inr h, by decide, by decide, by decide +kernel⟩
theorem good2 {H : Hp} {b : Addr} (h : FzT H b (nIs wG2)) : GoodWv H cG [] (.ref b) b wG2 := ⟨rfl, .inr h, by decide, by decide, by decide +kernel⟩
theorem rep_read {K : PySem.W.Frag} {T : List (Addr × Str)} {H : Hp} {a : Addr} {xs : List V} {Q : VK} (ha : H a = some (.tup xs)) (hn : xs ≠ []) (hl : xs.length ≤ 1000) (q : ∀ p H3, Fr T [] H H3 → FzT H3 p (List.replicate 27 xs).flatten → Q (.ref p) H3) : rRepF K (.ref a) (.int 27) H Q :=
  ⟨a, xs, rfl, rfl, SqT.of ha, hn, hl, NewF.of (T := T) fun p H' f _ h => q p H' f h⟩
theorem cat_read {K : PySem.W.Frag} {T : List (Addr × Str)} {H : Hp} {a b : Addr} {xs ys : List V} {Q : VK} (ha : FzT H a xs) (hb : FzT H b ys) (hx : xs ≠ []) (hy : ys ≠ []) (hl : xs.length + ys.length ≤ 1000) (q : ∀ p H3, Fr T [] H H3 → FzT H3 p (xs ++ ys) → Q (.ref p) H3) : rCatF K (.ref a) (.ref b) H Q :=
  ⟨a, b, xs, ys, rfl, rfl, ha.sq, hb.sq, hy, Nat.le_trans hl (by decide), fun e => absurd e hx, fun _ => NewF.of (T := T) fun p H' f _ h => q p H' f h⟩
theorem Kx.bad {H H' : Hp} {c : List Nat} {E : List En} {v : V} (x : Kx H H') (h : BadWv H c E v) : BadWv H' c E v := by
  rcases h with ⟨t, h1, h2⟩ | ⟨a, xs, e, h1, h2, h3, h4⟩ | ⟨b, l, e, h1, h2⟩
  · exact .inl ⟨t, x.ty h1, h2⟩
  · exact .inr (.inl ⟨a, xs, e, x.sq h1, h2, fun v hv => let ⟨t, q⟩ := h3 v hv; ⟨t, x.ty q⟩, h4⟩)
  · exact .inr (.inr ⟨b, l, e, x.wv h1, h2⟩)
theorem catA_sq {K : PySem.W.Frag} {T : List (Addr × Str)} {H : Hp} {a b : Addr} {xs ys : List V} {Q : VK} (ha : SqT K H a xs) (hb : H b = some (.tup ys)) (hy : ys ≠ []) (hl : xs.length + ys.length ≤ 1000) (q : ∀ p H3, Fr T [] H H3 → H3 p = some (.tup (xs ++ ys)) → Q (.ref p) H3) : rCatA K (.ref a) (.ref b) H Q := by
  refine ⟨a, b, xs, ys, rfl, rfl, ha, SqT.of hb, Nat.le_trans hl (by decide), fun e => ?_, fun _ e => absurd e hy, fun _ _ p hp => q p _ (Fr.new hp) upd_same⟩
  subst e
  exact q b H .refl hb
theorem atI_last {xs : List V} {v : V} (h : xs[xs.length - 1]? = some v) : atI xs (-1) = some v := by
  have hp : 0 < xs.length := by
    rcases Nat.eq_zero_or_pos xs.length with z | z
    · rw [z, List.eq_nil_of_length_eq_zero z] at h; cases h
    · exact z
  have e : ixN xs.length (-1) = some (xs.length - 1) := by
    unfold ixN
    rw [if_neg (by decide), if_pos (by omega)]
    congr 1
    omega
  unfold atI
  rw [e]
  exact h
structure LS (Tb : List (Addr × Str)) (d l cc la ep : Addr) (c : List Nat) (En' : List En) (vs : List V) (H : Hp) : Prop where
  dr : DrawAt H d l cc
  led : LedAt H la c En'
  ev : H ep = some (.lst vs)
  refs : Refs FzAt H vs (every c En')
  tabs : Tabs Tb H
theorem LS.kx {Tb : List (Addr × Str)} {d l cc la ep : Addr} {c : List Nat} {En' : List En} {vs : List V} {H H' : Hp} (h : LS Tb d l cc la ep c En' vs H) (x : Kx H H') (t : Tabs Tb H') : LS Tb d l cc la ep c En' vs H' := ⟨x.draw h.dr, x.led h.led, x.lst h.ev, x.refs h.refs, t⟩
section
variable {P : Program} {w : World} {K : PySem.W.Frag} {mg : Str → Option Value} {base : Heap} {Tb : List (Addr × Str)} {f c0 Pt g : Addr} {fd fdg : FuncData} {CS a_BadLedger a_BadNumber a_TooMany a_BadWeaving : Addr}
/-! ### _law_refused -/
def spRefused (Tb : List (Addr × Str)) : Sp := fun vs H Q _ => ∃ d l cc la c E, vs = [.ref d, .ref la] ∧ DrawAt H d l cc ∧ LedAt H la c E ∧ LedOk c E ∧ c.sum ≤ 8 ∧ Tabs Tb H ∧ ∀ H', Q (.bl true) H'
theorem sc__law_refused : FnScope ["_law_draw", "_law_ledger_here", "_law_odd", "_law_every", "_law_ask", "_law_bad", "_law_entry", "_law_rest", "_law_item", "_law_turned", "_law_told", "_law_caught_here", "_law_great", "_law_more"] ["_law_draw", "_law_ledger_here"] (defScope (top 56)) := ⟨rfl, rfl, rfl, by decide +kernel, rfl, by decide +kernel, by decide +kernel⟩
theorem ok_law_refused (F : FunC K "_law_refused" "_law_refused" (top 56) f c0 fd) (T : Txt mg) (TB : TabB base mg c0 Pt) (hmT : (Pt, (Str.ofString "_law_refused.<locals>.<lambda>")) ∈ Tb) (hu : ∀ p ∈ Tb, p.1 = Pt → p.2 = (Str.ofString "_law_refused.<locals>.<lambda>"))
    (FC : Fun K "_law_caught" "_law_caught" (top 47) g fdg) (gC : mg "_law_caught" = some (.ref g)) (hme : mg "WrongError" = some (.ref CS))
    (XL : ExF K mg CS "BadLedger" a_BadLedger) (XW : ExF K mg CS "BadWeaving" a_BadWeaving) (XN : ExF K mg CS "BadNumber" a_BadNumber) (XM : ExF K mg CS "TooMany" a_TooMany)
    (fN : XfC K a_BadNumber) (nN : PySem.W.findIn K (.ref a_BadNumber) "part" = some none) (fM : XfC K a_TooMany) (nM : PySem.W.findIn K (.ref a_TooMany) "most" = some none)
    (C__law_pick : Cl P w K mg base CX0 3 "_law_pick" (spPick Tb)) (C__law_all_woven : Cl P w K mg base CX0 2 "_law_all_woven" (spAll Tb))
    (C_how_many : Cl P w K mg base (L2.CX P w) 8 "how_many" (spHowMany Tb a_BadLedger a_TooMany)) (C_least_weaving : Cl P w K mg base (L2.CX P w) 8 "least_weaving" (spLeast Tb a_BadLedger a_TooMany))
    (C_next_weaving : Cl P w K mg base (L2.CX P w) 8 "next_weaving" (spNext Tb a_BadLedger a_BadWeaving a_TooMany)) (C_weaving_at : Cl P w K mg base (L2.CX P w) 8 "weaving_at" (spAt Tb a_BadLedger a_BadNumber a_TooMany))
    (C_place_of : Cl P w K mg base (L2.CX P w) 8 "place_of" (spPlace Tb a_BadLedger a_BadWeaving a_TooMany)) :
    FnOk P w K mg base CX0 11 f fd ["_law_draw", "_law_ledger_here"] (spRefused Tb) := by
  have G_BadLedger := XL.g
  have G_BadWeaving := XW.g
  have G_BadNumber := XN.g
  have G_TooMany := XM.g
  obtain ⟨a_how_many, G_how_many, A_how_many⟩ := C_how_many.at'
  obtain ⟨a_least_weaving, G_least_weaving, A_least_weaving⟩ := C_least_weaving.at'
  obtain ⟨a_next_weaving, G_next_weaving, A_next_weaving⟩ := C_next_weaving.at'
  obtain ⟨a_weaving_at, G_weaving_at, A_weaving_at⟩ := C_weaving_at.at'
  obtain ⟨a_place_of, G_place_of, A_place_of⟩ := C_place_of.at'
  have bC := FC.binds (ps := ["_law_work"]) (fun _ _ _ _ _ _ us hl => match us, hl with | [_], _ => rfl)
  have kC := FC.kp
  obtain ⟨ocg, odg, kVg, docg, pmg, ang, cdvg, ctg, oslg, rfl, lkC, hcC⟩ := FC.ex
  refine F.ok sc__law_refused (fun vs H Q E h => ?_) (fun A outer s H vs Q E hr h => ?_)
  · obtain ⟨d, l, cc, la, c, E, rfl, h⟩ := h
    rfl
  · obtain ⟨d, l, cc, la, c, En, rfl, h⟩ := h
    refine ⟨_, 
      (pss_cons (ps_asg (pe_tup (pa_cons (cl0 C__law_pick hr (by decide) (by rfl) (pa_cons (pv 0) (pa_cons (pe_lst (pa_cons pe_non (pa_cons pe_int (pa_cons (pe_tup pa_nil) (pa_cons (pe_callTy (crListOf K) (by rfl) T.f_list (by decide +kernel) (pa_cons (pv 1) pa_nil)) (pa_cons (pe_tup (pa_cons (pe_ix (ixT K) (pv 1) pe_int (fun _ _ => rfl)) (pa_cons pe_non pa_nil))) pa_nil)))))) pa_nil))) (pa_cons (cl0 C__law_all_woven hr (by decide) (by rfl) (pa_cons (pv 1) (pa_cons (pe_op op_pow pe_int pe_int) pa_nil))) pa_nil))) (pgT (n := 2) K (by rfl) (pgs_cons (pg_name (i := 2) sc__law_refused.nd rfl (by first | exact Or.inl rfl | exact Or.inr rfl)) (pgs_cons (pg_name (i := 3) sc__law_refused.nd rfl (by first | exact Or.inl rfl | exact Or.inr rfl)) pgs_nil))))
      (pss_cons (ps_for PassesOwn.never rfl (piL K (pe_lst (pa_cons (pe_glob (v := .ref a_how_many) (by rfl) G_how_many rfl) (pa_cons (pe_glob (v := .ref a_least_weaving) (by rfl) G_least_weaving rfl) pa_nil)))) (pg_name (i := 4) sc__law_refused.nd rfl (by first | exact Or.inl rfl | exact Or.inr rfl))
      (pss_one (ps_if (pt_not (pt_val (pe_callB (ckIsX K) (by rfl) T.f_isinstance (by decide +kernel) (pa_cons (pe_lamcall (T := Tb) (k := 8) (by rfl) gC kC lkC hcC bC sc_law_caught rfl (Or.inl rfl) (caught_gives hme) TB rfl hmT hu hr (lamS_by (by kernel_rfl)) (by rfl) (fun _ _ _ _ _ => rfl) (fun A_2 outer_2 s_2 H_2 E_2 f_2 c_2 hr2 => (PE_or (clV (i := 4) A_how_many hr2 (by decide) (by rfl) (Or.inr (Or.inr rfl)) (passes_call (takes_of rfl rfl rfl rfl) fun _ _ _ _ h => h) (pa_cons (pv 2) pa_nil)) (clV (i := 4) A_least_weaving hr2 (by decide) (by rfl) (Or.inr (Or.inr rfl)) (passes_call (takes_of rfl rfl rfl rfl) fun _ _ _ _ h => h) (pa_cons (pv 2) pa_nil))))) (pa_cons (pe_glob (v := .ref a_BadLedger) (by rfl) G_BadLedger rfl) pa_nil)))))
      (pss_one (ps_ret pe_bl)) pss_nil)))
      (pss_cons (ps_for PassesOwn.never rfl (piL K (pe_lst (pa_cons (pe_glob (v := .ref a_next_weaving) (by rfl) G_next_weaving rfl) (pa_cons (pe_glob (v := .ref a_weaving_at) (by rfl) G_weaving_at rfl) (pa_cons (pe_glob (v := .ref a_place_of) (by rfl) G_place_of rfl) pa_nil))))) (pg_name (i := 4) sc__law_refused.nd rfl (by first | exact Or.inl rfl | exact Or.inr rfl))
      (pss_one (ps_if (pt_not (pt_val (pe_callB (ckIsX K) (by rfl) T.f_isinstance (by decide +kernel) (pa_cons (pe_lamcall (T := Tb) (k := 8) (by rfl) gC kC lkC hcC bC sc_law_caught rfl (Or.inl rfl) (caught_gives hme) TB rfl hmT hu hr (lamS_by (by kernel_rfl)) (by rfl) (fun _ _ _ _ _ => rfl) (fun A_2 outer_2 s_2 H_2 E_2 f_2 c_2 hr2 => (PE_or (clV (i := 4) A_next_weaving hr2 (by decide) (by rfl) (Or.inr (Or.inr rfl)) (passes_call (takes_of rfl rfl rfl rfl) fun _ _ _ _ h => h) (pa_cons (pv 2) (pa_cons (pe_un un_neg pe_int) pa_nil))) (PE_or (clV (i := 4) A_weaving_at hr2 (by decide) (by rfl) (Or.inr (Or.inr rfl)) (passes_call (takes_of rfl rfl rfl rfl) fun _ _ _ _ h => h) (pa_cons (pv 2) (pa_cons (pe_un un_neg pe_int) pa_nil))) (clV (i := 4) A_place_of hr2 (by decide) (by rfl) (Or.inr (Or.inr rfl)) (passes_call (takes_of rfl rfl rfl rfl) fun _ _ _ _ h => h) (pa_cons (pv 2) (pa_cons (pe_un un_neg pe_int) pa_nil))))))) (pa_cons (pe_glob (v := .ref a_BadLedger) (by rfl) G_BadLedger rfl) pa_nil)))))
      (pss_one (ps_ret pe_bl)) pss_nil)))
      (pss_cons (ps_set (i := 5) sc__law_refused.nd rfl (by first | exact Or.inl rfl | exact Or.inr rfl) (cl0 C__law_pick hr (by decide) (by rfl) (pa_cons (pv 0) (pa_cons (pe_lst (pa_cons pe_non (pa_cons pe_int (pa_cons (pe_op op_cat (pe_callTy (crListOf K) (by rfl) T.f_list (by decide +kernel) (pa_cons (pe_ix (ixL K) (pv 3) pe_int (fun _ _ => rfl)) pa_nil)) (pe_lst (pa_cons pe_int pa_nil))) (pa_cons (pe_op (opCat K) (pe_slice (slT K) (pe_ix (ixL K) (pv 3) (pe_un un_neg pe_int) (fun _ _ => rfl)) (po_some pe_int) po_none) (pe_tup (pa_cons pe_int pa_nil))) (pa_cons pe_str (pa_cons (pe_tup (pa_cons (pe_ix (ixL K) (pv 3) pe_int (fun _ _ => rfl)) pa_nil)) pa_nil))))))) pa_nil))))
      (pss_cons (ps_for PassesOwn.never rfl (piL K (pe_lst (pa_cons (pe_glob (v := .ref a_next_weaving) (by rfl) G_next_weaving rfl) (pa_cons (pe_glob (v := .ref a_place_of) (by rfl) G_place_of rfl) pa_nil)))) (pg_name (i := 4) sc__law_refused.nd rfl (by first | exact Or.inl rfl | exact Or.inr rfl))
      (pss_one (ps_if (pt_not (pt_val (pe_callB (ckIsX K) (by rfl) T.f_isinstance (by decide +kernel) (pa_cons (pe_lamcall (T := Tb) (k := 8) (by rfl) gC kC lkC hcC bC sc_law_caught rfl (Or.inl rfl) (caught_gives hme) TB rfl hmT hu hr (lamS_by (by kernel_rfl)) (by rfl) (fun _ _ _ _ _ => rfl) (fun A_2 outer_2 s_2 H_2 E_2 f_2 c_2 hr2 => (PE_or (clV (i := 4) A_next_weaving hr2 (by decide) (by rfl) (Or.inr (Or.inr rfl)) (passes_call (takes_of rfl rfl rfl rfl) fun _ _ _ _ h => h) (pa_cons (pv 1) (pa_cons (pv 5) pa_nil))) (clV (i := 4) A_place_of hr2 (by decide) (by rfl) (Or.inr (Or.inr rfl)) (passes_call (takes_of rfl rfl rfl rfl) fun _ _ _ _ h => h) (pa_cons (pv 1) (pa_cons (pv 5) pa_nil)))))) (pa_cons (pe_glob (v := .ref a_BadWeaving) (by rfl) G_BadWeaving rfl) pa_nil)))))
      (pss_one (ps_ret pe_bl)) pss_nil)))
      (pss_cons (ps_for PassesOwn.never rfl (piT K (pe_ix (ixT K) (pv 1) pe_int (fun _ _ => rfl))) (pg_name (i := 6) sc__law_refused.nd rfl (by first | exact Or.inl rfl | exact Or.inr rfl))
      (pss_cons (ps_set (i := 7) sc__law_refused.nd rfl (by first | exact Or.inl rfl | exact Or.inr rfl) (pe_tup (pa_cons (pe_ix (ixT K) (pv 1) pe_int (fun _ _ => rfl)) (pa_cons (pe_callTy (crTupOf K) (by rfl) T.f_tuple (by decide +kernel) (pa_cons (pe_lc (own := [("_law_item", 8)]) (by rfl) sc__law_refused.nd (piT K (pe_ix (ixT K) (pv 1) pe_int (fun _ _ => rfl))) (blkOk_by (by kernel_rfl)) (fun _ _ _ _ _ => (pg_name (i := 8) sc__law_refused.nd rfl (by first | exact Or.inl rfl | exact Or.inr rfl))) (fun _ _ _ _ _ => (pts_one (pt_cmpR (opNe K hr.units) (pv 8) (pv 6) (nomark _)))) (fun _ _ _ _ _ => (pv 8))) pa_nil)) pa_nil))))
      (pss_cons (ps_set (i := 9) sc__law_refused.nd rfl (by first | exact Or.inl rfl | exact Or.inr rfl) (pe_lc (own := [("_law_told", 10)]) (by rfl) sc__law_refused.nd (piL K (cl0 C__law_all_woven hr (by decide) (by rfl) (pa_cons (pv 7) (pa_cons (pe_op op_pow pe_int pe_int) pa_nil)))) (blkOk_by (by kernel_rfl)) (fun _ _ _ _ _ => (pg_name (i := 10) sc__law_refused.nd rfl (by first | exact Or.inl rfl | exact Or.inr rfl))) (fun _ _ _ _ _ => (pts_one (pt_cmpR (opNotIn K (un65 hr)) (pv 10) (pv 3) rfl))) (fun _ _ _ _ _ => (pv 10))))
      (pss_one (ps_if (PW.pt (pw_and (pt_cmpR (opNe K hr.units) (pv 9) (pe_lst pa_nil) (nomark _)) (pw_and1 (pt_not (pt_val (pe_callB (ckIsX K) (by rfl) T.f_isinstance (by decide +kernel) (pa_cons (pe_lamcall (T := Tb) (k := 8) (by rfl) gC kC lkC hcC bC sc_law_caught rfl (Or.inl rfl) (caught_gives hme) TB rfl hmT hu hr (lamS_by (by kernel_rfl)) (by rfl) (fun _ _ _ _ _ => rfl) (fun A_2 outer_2 s_2 H_2 E_2 f_2 c_2 hr2 => (clX C_place_of hr2 (by decide) (by rfl) (passes_call (takes_of rfl rfl rfl rfl) fun _ _ _ _ h => h) (pa_cons (pv 1) (pa_cons (pe_ix (ixL K) (pv 9) pe_int (fun _ _ => rfl)) pa_nil))))) (pa_cons (pe_glob (v := .ref a_BadWeaving) (by rfl) G_BadWeaving rfl) pa_nil))))))))
      (pss_one (ps_ret pe_bl)) pss_nil)))))
      (pss_cons (ps_set (i := 11) sc__law_refused.nd rfl (by first | exact Or.inl rfl | exact Or.inr rfl) (pe_lamcall (T := Tb) (k := 8) (by rfl) gC kC lkC hcC bC sc_law_caught rfl (Or.inl rfl) (caught_gives hme) TB rfl hmT hu hr (lamS_by (by kernel_rfl)) (by rfl) (fun _ _ _ _ _ => rfl) (fun A_2 outer_2 s_2 H_2 E_2 f_2 c_2 hr2 => (clX C_weaving_at hr2 (by decide) (by rfl) (passes_call (takes_of rfl rfl rfl rfl) fun _ _ _ _ h => h) (pa_cons (pv 1) (pa_cons (cl0 C__law_pick hr2 (by decide) (by rfl) (pa_cons (pv 0) (pa_cons (pe_lst (pa_cons (pe_un un_neg pe_int) (pa_cons (pe_callB (crLen K) (by rfl) T.f_len PySem.boot_len (pa_cons (pv 3) pa_nil)) (pa_cons pe_non (pa_cons pe_bl (pa_cons pe_str pa_nil)))))) pa_nil))) pa_nil))))))
      (pss_cons (ps_if (PW.pt (pw_or (pt_not (pt_val (pe_callB (ckIsX K) (by rfl) T.f_isinstance (by decide +kernel) (pa_cons (pv 11) (pa_cons (pe_glob (v := .ref a_BadNumber) (by rfl) G_BadNumber rfl) pa_nil))))) (pw_or1 (pt_cmpR op_ne (peXfV K (pv 11)) pe_str (nomark _)))))
      (pss_one (ps_ret pe_bl)) pss_nil)
      (pss_cons (ps_set (i := 12) sc__law_refused.nd rfl (by first | exact Or.inl rfl | exact Or.inr rfl) (pe_tup (pa_cons (pe_tup (pa_cons pe_int (pa_cons pe_int (pa_cons pe_int (pa_cons pe_int pa_nil))))) (pa_cons (pe_tup pa_nil) pa_nil))))
      (pss_cons (ps_for PassesOwn.never rfl (piL K (pe_lst (pa_cons (pe_glob (v := .ref a_how_many) (by rfl) G_how_many rfl) (pa_cons (pe_glob (v := .ref a_least_weaving) (by rfl) G_least_weaving rfl) pa_nil)))) (pg_name (i := 4) sc__law_refused.nd rfl (by first | exact Or.inl rfl | exact Or.inr rfl))
      (pss_cons (ps_set (i := 11) sc__law_refused.nd rfl (by first | exact Or.inl rfl | exact Or.inr rfl) (pe_lamcall (T := Tb) (k := 8) (by rfl) gC kC lkC hcC bC sc_law_caught rfl (Or.inl rfl) (caught_gives hme) TB rfl hmT hu hr (lamS_by (by kernel_rfl)) (by rfl) (fun _ _ _ _ _ => rfl) (fun A_2 outer_2 s_2 H_2 E_2 f_2 c_2 hr2 => (PE_or (clV (i := 4) A_how_many hr2 (by decide) (by rfl) (Or.inr (Or.inr rfl)) (passes_call (takes_of rfl rfl rfl rfl) fun _ _ _ _ h => h) (pa_cons (pv 12) pa_nil)) (clV (i := 4) A_least_weaving hr2 (by decide) (by rfl) (Or.inr (Or.inr rfl)) (passes_call (takes_of rfl rfl rfl rfl) fun _ _ _ _ h => h) (pa_cons (pv 12) pa_nil))))))
      (pss_one (ps_if (PW.pt (pw_or (pt_not (pt_val (pe_callB (ckIsX K) (by rfl) T.f_isinstance (by decide +kernel) (pa_cons (pv 11) (pa_cons (pe_glob (v := .ref a_TooMany) (by rfl) G_TooMany rfl) pa_nil))))) (pw_or1 (pt_cmpR op_ne (peXfV K (pv 11)) pe_int (nomark _)))))
      (pss_one (ps_ret pe_bl)) pss_nil))))
      (pss_cons (ps_for PassesOwn.never rfl (piL K (pe_lst (pa_cons (pe_tup (pa_cons (pe_glob (v := .ref a_next_weaving) (by rfl) G_next_weaving rfl) (pa_cons (pe_op (opRepF K) (pe_tup (pa_cons pe_int (pa_cons pe_int (pa_cons pe_int pa_nil)))) pe_int) pa_nil))) (pa_cons (pe_tup (pa_cons (pe_glob (v := .ref a_place_of) (by rfl) G_place_of rfl) (pa_cons (pe_op (opCatF K) (pe_op (opCatF K) (pe_op (opRepF K) (pe_tup (pa_cons pe_int pa_nil)) pe_int) (pe_op (opRepF K) (pe_tup (pa_cons pe_int pa_nil)) pe_int)) (pe_op (opRepF K) (pe_tup (pa_cons pe_int pa_nil)) pe_int)) pa_nil))) (pa_cons (pe_tup (pa_cons (pe_glob (v := .ref a_weaving_at) (by rfl) G_weaving_at rfl) (pa_cons (pe_un un_neg pe_int) pa_nil))) pa_nil))))) (pgT (n := 2) K (by rfl) (pgs_cons (pg_name (i := 4) sc__law_refused.nd rfl (by first | exact Or.inl rfl | exact Or.inr rfl)) (pgs_cons (pg_name (i := 13) sc__law_refused.nd rfl (by first | exact Or.inl rfl | exact Or.inr rfl)) pgs_nil)))
      (pss_cons (ps_set (i := 11) sc__law_refused.nd rfl (by first | exact Or.inl rfl | exact Or.inr rfl) (pe_lamcall (T := Tb) (k := 8) (by rfl) gC kC lkC hcC bC sc_law_caught rfl (Or.inl rfl) (caught_gives hme) TB rfl hmT hu hr (lamS_by (by kernel_rfl)) (by rfl) (fun _ _ _ _ _ => rfl) (fun A_2 outer_2 s_2 H_2 E_2 f_2 c_2 hr2 => (PE_or (clV (i := 4) A_next_weaving hr2 (by decide) (by rfl) (Or.inr (Or.inr rfl)) (passes_call (takes_of rfl rfl rfl rfl) fun _ _ _ _ h => h) (pa_cons (pv 12) (pa_cons (pv 13) pa_nil))) (PE_or (clV (i := 4) A_place_of hr2 (by decide) (by rfl) (Or.inr (Or.inr rfl)) (passes_call (takes_of rfl rfl rfl rfl) fun _ _ _ _ h => h) (pa_cons (pv 12) (pa_cons (pv 13) pa_nil))) (clV (i := 4) A_weaving_at hr2 (by decide) (by rfl) (Or.inr (Or.inr rfl)) (passes_call (takes_of rfl rfl rfl rfl) fun _ _ _ _ h => h) (pa_cons (pv 12) (pa_cons (pv 13) pa_nil))))))))
      (pss_one (ps_if (PW.pt (pw_or (pt_not (pt_val (pe_callB (ckIsX K) (by rfl) T.f_isinstance (by decide +kernel) (pa_cons (pv 11) (pa_cons (pe_glob (v := .ref a_TooMany) (by rfl) G_TooMany rfl) pa_nil))))) (pw_or1 (pt_cmpR op_ne (peXfV K (pv 11)) pe_int (nomark _)))))
      (pss_one (ps_ret pe_bl)) pss_nil))))
      (pss_one (ps_ret pe_bl)))))))))))))
      , ?_⟩
    obtain ⟨hd, hL, ok, hsum, hT, k⟩ := h
    obtain ⟨ca, ea, es, hL1, hL2, hL3, hL4⟩ := id hL
    refine ⟨_, rfl, by show 0 ≤ sizeLine; decide, fun t0 ht0 => ?_⟩
    have f1 : Fr Tb [] H (upd H t0 (.tup [])) := Fr.new ht0
    have ht1 : upd H t0 (.tup []) t0 = some (.tup []) := upd_same
    generalize upd H t0 (.tup []) = H1 at f1 ht1 ⊢
    refine ⟨_, rfl, la, _, rfl, .inr (SqT.of (f1.tup0 hL1)), fun l1 hl1 => ?_⟩
    have f2 : Fr Tb [] H1 (upd H1 l1 (.lst [.ref ca, .ref ea])) := Fr.new hl1
    have hl2 : upd H1 l1 (.lst [.ref ca, .ref ea]) l1 = some (.lst [.ref ca, .ref ea]) := upd_same
    generalize upd H1 l1 (.lst [.ref ca, .ref ea]) = H2 at f2 hl2 ⊢
    have f02 := f1.trans f2
    refine ⟨_, rfl, la, _, 0, _, rfl, rfl, SqT.of (f02.tup0 hL1), rfl, by show 2 ≤ sizeLine; decide, fun t2 ht2 => ?_⟩
    have f3 : Fr Tb [] H2 (upd H2 t2 (.tup [.ref ca, .non])) := Fr.new ht2
    have ht3 : upd H2 t2 (.tup [.ref ca, .non]) t2 = some (.tup [.ref ca, .non]) := upd_same
    generalize upd H2 t2 (.tup [.ref ca, .non]) = H3 at f3 ht3 ⊢
    have f03 := f02.trans f3
    refine ⟨by show 5 ≤ sizeLine; decide, fun p hp => ?_⟩
    have f4 : Fr Tb [] H3 (upd H3 p (.lst [.non, .int 5, .ref t0, .ref l1, .ref t2])) := Fr.new hp
    have hp4 : upd H3 p (.lst [.non, .int 5, .ref t0, .ref l1, .ref t2]) p = some (.lst [.non, .int 5, .ref t0, .ref l1, .ref t2]) := upd_same
    have np := (hd.fr (S := []) f03).new hp
    generalize upd H3 p (.lst [.non, .int 5, .ref t0, .ref l1, .ref t2]) = H4 at f4 hp4 ⊢
    have f04 := f03.trans f4
    have hd4 := hd.fr (S := []) f04
    have nl1 := (hd.fr (S := []) f1).new hl1
    refine ⟨d, l, cc, p, _, rfl, hd4, hp4, np.1, by show 0 < 5; decide, by show 5 ≤ 100000; decide, fun H5 xo f5 hd5 hxo => ?_⟩
    have hodd : Odd H5 xo := by
      have e1 : H5 t0 = some (.tup []) := drTup hd4 f5 ((f2.trans (f3.trans f4)).tup0 ht1)
      have e2 : H5 l1 = some (.lst [.ref ca, .ref ea]) := drLst hd4 f5 nl1.1 ((f3.trans f4).lst0 hl2)
      have e3 : H5 t2 = some (.tup [.ref ca, .non]) := drTup hd4 f5 (f4.tup0 ht3)
      have e4 : H5 ca = some (.tup (nIs c)) := drTup hd4 f5 (f04.tup0 hL2)
      simp only [List.mem_cons, List.not_mem_nil, or_false] at hxo
      rcases hxo with rfl | rfl | rfl | rfl | rfl
      · exact .inl ⟨_, .non, by decide⟩
      · exact .inl ⟨_, .int _, by decide⟩
      · exact .inr (.inl ⟨_, rfl, e1⟩)
      · exact .inl ⟨_, .lst e2, by decide⟩
      · exact .inr (.inr ⟨_, ca, c, rfl, e3, e4, ok.len, ok.small⟩)
    have hLed5 := drLed hd4 f5 (hL.fr f04)
    have hT5 := f5.tabs (f04.tabs hT)
    refine ⟨_, rfl, 10, 9, rfl, rfl, ⟨by decide, by decide, by decide⟩, la, c, En, rfl, hLed5, ok.len, ok.ein, ok.few, hsum, fun H6 ep vs f6 hep0 hep hR => ?_⟩
    have nep := hd5.new hep0
    refine ⟨by show 2 ≤ sizeLine; decide, fun tp htp => ?_⟩
    have f7 : Fr Tb [] H6 (upd H6 tp (.tup [xo, .ref ep])) := Fr.new htp
    have ht7 : upd H6 tp (.tup [xo, .ref ep]) tp = some (.tup [xo, .ref ep]) := upd_same
    generalize upd H6 tp (.tup [xo, .ref ep]) = H7 at f7 ht7 ⊢
    have f57 := f6.trans f7
    have hS7 : LS Tb d l cc la ep c En vs H7 := ⟨hd5.fr (S := []) f57, hLed5.fr f57, f7.lst0 hep, hR.fr fun a w q => f7.fz0 q, f57.tabs hT5⟩
    have ho7 : Odd H7 xo := f57.x.odd hodd
    have few : Few c := few8 ok.len hsum
    refine ⟨tp, _, rfl, SqT.of ht7, rfl, _, _, rfl, _, _, rfl, rfl, ?_⟩
    -- [how_many, least_weaving] of what is no ledger
    refine ⟨by show 2 ≤ sizeLine; decide, fun q hq => ?_⟩
    have f8 : Fr Tb [] H7 (upd H7 q (.lst [.ref a_how_many, .ref a_least_weaving])) := Fr.new hq
    have hq8 : upd H7 q (.lst [.ref a_how_many, .ref a_least_weaving]) q = some (.lst [.ref a_how_many, .ref a_least_weaving]) := upd_same
    generalize upd H7 q (.lst [.ref a_how_many, .ref a_least_weaving]) = H8 at f8 hq8 ⊢
    refine ⟨q, rfl, ⟨_, SqL.of hq8⟩, for_list (K := K) (a := q) (xs := [.ref a_how_many, .ref a_least_weaving]) (fun i σ H' => ∃ x4, σ = [some (.ref d), some (.ref la), some xo, some (.ref ep), x4, none, none, none, none, none, none, none, none, none] ∧ LS Tb d l cc la ep c En vs H' ∧ Odd H' xo ∧ H' q = some (.lst [.ref a_how_many, .ref a_least_weaving]))
      ⟨none, rfl, hS7.kx f8.x (f8.tabs hS7.tabs), f8.x.odd ho7, hq8⟩ (fun i σ H' _ ⟨_, _, _, _, h⟩ => SqL.of h) ?_ ?_⟩
    · rintro i x σ H' hx ⟨x4, rfl, hS, ho, hq'⟩
      refine ⟨hS.tabs, fun H9 x9 t9 => ?_⟩
      have o9 := (Kx.of x9).odd ho
      have fin : ∀ H10 a, Fr Tb [] H9 H10 → H10 a = none → ∃ x4, [some (.ref d), some (.ref la), some xo, some (.ref ep), some x, none, none, none, none, none, none, none, none, none] = [some (.ref d), some (.ref la), some xo, some (.ref ep), x4, none, none, none, none, none, none, none, none, none] ∧ LS Tb d l cc la ep c En vs (upd H10 a (ExD (.ref a_BadLedger) none a)) ∧ Odd (upd H10 a (ExD (.ref a_BadLedger) none a)) xo ∧ upd H10 a (ExD (.ref a_BadLedger) none a) q = some (.lst [.ref a_how_many, .ref a_least_weaving]) := fun H10 a f10 ha => by
        have xx : Kx H' (upd H10 a (ExD (.ref a_BadLedger) none a)) := (Kx.of x9).tr ((f10.upd_new ha).x)
        exact ⟨_, rfl, hS.kx xx ((f10.upd_new ha).tabs t9), xx.odd ho, xx.lst hq'⟩
      have hx' := List.mem_of_getElem? hx
      simp only [List.mem_cons, List.not_mem_nil, or_false] at hx'
      rcases hx' with rfl | rfl
      · exact .inl ⟨rfl, _, rfl, _, rfl, .inl ⟨o9, fun H10 f10 => ⟨XL.m, fun a ha => ⟨a, a_BadLedger, none, rfl, upd_same, fun dd e => (by cases e), XL.exc, _, rfl, iteF (fin H10 a f10 ha)⟩⟩⟩⟩
      · exact .inr ⟨rfl, _, rfl, _, rfl, .inl ⟨o9, fun H10 f10 => ⟨XL.m, fun a ha => ⟨a, a_BadLedger, none, rfl, upd_same, fun dd e => (by cases e), XL.exc, _, rfl, iteF (fin H10 a f10 ha)⟩⟩⟩⟩
    rintro σ H9 ⟨x4, rfl, hS9, ho9, _⟩
    -- [next_weaving, weaving_at, place_of] of what is no ledger
    refine ⟨by show 3 ≤ sizeLine; decide, fun q2 hq2 => ?_⟩
    have f10 : Fr Tb [] H9 (upd H9 q2 (.lst [.ref a_next_weaving, .ref a_weaving_at, .ref a_place_of])) := Fr.new hq2
    have hq10 : upd H9 q2 (.lst [.ref a_next_weaving, .ref a_weaving_at, .ref a_place_of]) q2 = some (.lst [.ref a_next_weaving, .ref a_weaving_at, .ref a_place_of]) := upd_same
    generalize upd H9 q2 (.lst [.ref a_next_weaving, .ref a_weaving_at, .ref a_place_of]) = H10 at f10 hq10 ⊢
    refine ⟨q2, rfl, ⟨_, SqL.of hq10⟩, for_list (K := K) (a := q2) (xs := [.ref a_next_weaving, .ref a_weaving_at, .ref a_place_of]) (fun i σ H' => ∃ x4, σ = [some (.ref d), some (.ref la), some xo, some (.ref ep), x4, none, none, none, none, none, none, none, none, none] ∧ LS Tb d l cc la ep c En vs H' ∧ Odd H' xo ∧ H' q2 = some (.lst [.ref a_next_weaving, .ref a_weaving_at, .ref a_place_of]))
      ⟨_, rfl, hS9.kx f10.x (f10.tabs hS9.tabs), f10.x.odd ho9, hq10⟩ (fun i σ H' _ ⟨_, _, _, _, h⟩ => SqL.of h) ?_ ?_⟩
    · rintro i x σ H' hx ⟨x4, rfl, hS, ho, hq'⟩
      refine ⟨hS.tabs, fun H11 x11 t11 => ?_⟩
      have o11 := (Kx.of x11).odd ho
      have fin : ∀ H12 a, Fr Tb [] H11 H12 → H12 a = none → ∃ x4, [some (.ref d), some (.ref la), some xo, some (.ref ep), some x, none, none, none, none, none, none, none, none, none] = [some (.ref d), some (.ref la), some xo, some (.ref ep), x4, none, none, none, none, none, none, none, none, none] ∧ LS Tb d l cc la ep c En vs (upd H12 a (ExD (.ref a_BadLedger) none a)) ∧ Odd (upd H12 a (ExD (.ref a_BadLedger) none a)) xo ∧ upd H12 a (ExD (.ref a_BadLedger) none a) q2 = some (.lst [.ref a_next_weaving, .ref a_weaving_at, .ref a_place_of]) := fun H12 a f12 ha => by
        have xx : Kx H' (upd H12 a (ExD (.ref a_BadLedger) none a)) := (Kx.of x11).tr ((f12.upd_new ha).x)
        exact ⟨_, rfl, hS.kx xx ((f12.upd_new ha).tabs t11), xx.odd ho, xx.lst hq'⟩
      have hx' := List.mem_of_getElem? hx
      simp only [List.mem_cons, List.not_mem_nil, or_false] at hx'
      rcases hx' with rfl | rfl | rfl
      · exact .inl ⟨rfl, _, rfl, _, rfl, _, _, rfl, .inl ⟨o11, fun H12 f12 => ⟨XL.m, fun a ha => ⟨a, a_BadLedger, none, rfl, upd_same, fun dd e => (by cases e), XL.exc, _, rfl, iteF (fin H12 a f12 ha)⟩⟩⟩⟩
      · exact .inr (.inl ⟨rfl, _, rfl, _, rfl, _, _, rfl, .inl ⟨o11, fun H12 f12 => ⟨XL.m, fun a ha => ⟨a, a_BadLedger, none, rfl, upd_same, fun dd e => (by cases e), XL.exc, _, rfl, iteF (fin H12 a f12 ha)⟩⟩⟩⟩)
      · exact .inr (.inr ⟨rfl, _, rfl, _, rfl, _, _, rfl, .inl ⟨o11, fun H12 f12 => ⟨XL.m, fun a ha => ⟨a, a_BadLedger, none, rfl, upd_same, fun dd e => (by cases e), XL.exc, _, rfl, iteF (fin H12 a f12 ha)⟩⟩⟩⟩)
    rintro σ H11 ⟨x4', rfl, hS11, _, _⟩
    -- a wrong weaving
    have vlen : vs.length = W c En zero4 := by rw [Paired.length hS11.refs, every_length]
    have hWp : 0 < W c En zero4 := W_pos ok.good (Le.zero ok.len)
    obtain ⟨w0, hw0⟩ : ∃ w0, (every c En)[0]? = some w0 := ⟨_, List.getElem?_eq_getElem (by rw [every_length]; exact hWp)⟩
    obtain ⟨wz, hwz⟩ : ∃ wz, (every c En)[vs.length - 1]? = some wz := ⟨_, List.getElem?_eq_getElem (by rw [every_length]; omega)⟩
    obtain ⟨u0, hu0, p0, rfl, hp0⟩ := Paired.at2 hS11.refs hw0
    obtain ⟨uz, huz, pz, rfl, hpz⟩ := Paired.at2 hS11.refs hwz
    obtain ⟨g1, g2, g3, g4, g5⟩ := everyGood ok (List.mem_of_getElem? hw0)
    obtain ⟨z1, z2, z3, z4, z5⟩ := everyGood ok (List.mem_of_getElem? hwz)
    refine ⟨_, rfl, _, rfl, ep, vs, 0, _, rfl, rfl, SqL.of hS11.ev, atI_nat (j := 0) hu0, p0, _, rfl, .inr hp0.sq, fun b1 hb1 => ?_⟩
    have f12 : Fr Tb [] H11 (upd H11 b1 (.lst (nIs w0))) := Fr.new hb1
    have hb12 : upd H11 b1 (.lst (nIs w0)) b1 = some (.lst (nIs w0)) := upd_same
    generalize upd H11 b1 (.lst (nIs w0)) = H12 at f12 hb12 ⊢
    refine ⟨by show 1 ≤ sizeLine; decide, fun b2 hb2 => ?_⟩
    have f13 : Fr Tb [] H12 (upd H12 b2 (.lst [.int 0])) := Fr.new hb2
    have hb13 : upd H12 b2 (.lst [.int 0]) b2 = some (.lst [.int 0]) := upd_same
    generalize upd H12 b2 (.lst [.int 0]) = H13 at f13 hb13 ⊢
    refine ⟨b1, b2, _, _, rfl, rfl, f13.lst0 hb12, hb13, by
      rw [List.length_map]
      exact Nat.le_trans (by show w0.length + 1 ≤ 100; omega) (by decide), fun b3 hb3 => ?_⟩
    have f14 : Fr Tb [] H13 (upd H13 b3 (.lst (nIs w0 ++ [.int 0]))) := Fr.new hb3
    have hb14 : upd H13 b3 (.lst (nIs w0 ++ [.int 0])) b3 = some (.lst (nIs (w0 ++ [0]))) := by rw [upd_same]; simp [nIs]
    have f1113 := f12.trans f13
    have nb3 := (hS11.dr.fr (S := []) f1113).new hb3
    generalize upd H13 b3 (.lst (nIs w0 ++ [.int 0])) = H14 at f14 hb14 ⊢
    have f1114 := f1113.trans f14
    refine ⟨_, rfl, _, rfl, ep, vs, -1, _, rfl, rfl, SqL.of (f1114.lst0 hS11.ev), atI_last huz, _, rfl, ?_⟩
    delta tNoPart
    dsimp only
    refine slLo (T := Tb) (t := 1) (f1114.fz0 hpz).sq fun b4 H15 f15 hb4 _ => ?_
    refine ⟨by show 1 ≤ sizeLine; decide, fun b5 hb5 => ?_⟩
    have f16 : Fr Tb [] H15 (upd H15 b5 (.tup [.int 4])) := Fr.new hb5
    have hb16 : upd H15 b5 (.tup [.int 4]) b5 = some (.tup [.int 4]) := upd_same
    generalize upd H15 b5 (.tup [.int 4]) = H16 at f16 hb16 ⊢
    refine catA_sq (T := Tb) (SqT.fr hb4 f16) hb16 (by simp) (by
      rw [List.length_drop, List.length_map]
      show wz.length - 1 + 1 ≤ 1000
      omega) fun b6 H17 f17 hb6 => ?_
    have f1117 := f1114.trans (f15.trans (f16.trans f17))
    refine ⟨_, rfl, ep, vs, 0, _, rfl, rfl, SqL.of (f1117.lst0 hS11.ev), atI_nat (j := 0) hu0, by show 1 ≤ sizeLine; decide, fun b7 hb7 => ?_⟩
    have f18 : Fr Tb [] H17 (upd H17 b7 (.tup [.ref p0])) := Fr.new hb7
    have hb18 : upd H17 b7 (.tup [.ref p0]) b7 = some (.tup [.ref p0]) := upd_same
    generalize upd H17 b7 (.tup [.ref p0]) = H18 at f18 hb18 ⊢
    have f1118 := f1117.trans f18
    refine ⟨by show 6 ≤ sizeLine; decide, fun b8 hb8 => ?_⟩
    have f19 : Fr Tb [] H18 (upd H18 b8 (.lst [.non, .int 5, .ref b3, .ref b6, .str (Str.ofString "0"), .ref b7])) := Fr.new hb8
    have hb19 : upd H18 b8 (.lst [.non, .int 5, .ref b3, .ref b6, .str (Str.ofString "0"), .ref b7]) b8 = some (.lst [.non, .int 5, .ref b3, .ref b6, .str (Str.ofString "0"), .ref b7]) := upd_same
    have nb8 := (hS11.dr.fr (S := []) f1118).new hb8
    generalize upd H18 b8 (.lst [.non, .int 5, .ref b3, .ref b6, .str (Str.ofString "0"), .ref b7]) = H19 at f19 hb19 ⊢
    have f1119 := f1118.trans f19
    have hd19 := hS11.dr.fr (S := []) f1119
    refine ⟨d, l, cc, b8, _, rfl, hd19, hb19, nb8.1, by show 0 < 6; decide, by show 6 ≤ 100000; decide, fun H20 xb f20 hd20 hxb => ?_⟩
    have hep19 := f1119.lst0 hS11.ev
    have nepl : ep ≠ l := nep.1
    have hS20 : LS Tb d l cc la ep c En vs H20 := ⟨hd20, drLed hd19 f20 (hS11.led.fr f1119), drLst hd19 f20 nepl hep19, (hS11.refs.fr fun a w q => f1119.fz0 q).fr fun a w q => drFz hd19 f20 q, f20.tabs (f1119.tabs hS11.tabs)⟩
    have hbad : BadWv H20 c En xb := by
      have e3 : H20 b3 = some (.lst (nIs (w0 ++ [0]))) := drLst hd19 f20 nb3.1 ((f15.trans (f16.trans (f17.trans (f18.trans f19)))).lst0 hb14)
      have e6 : H20 b6 = some (.tup ((nIs wz).drop 1 ++ [.int 4])) := drTup hd19 f20 ((f18.trans f19).tup0 hb6)
      have e7 : H20 b7 = some (.tup [.ref p0]) := drTup hd19 f20 (f19.tup0 hb18)
      have e0 : FzT H20 p0 (nIs w0) := drFz hd19 f20 (f1119.fz0 hp0)
      simp only [List.mem_cons, List.not_mem_nil, or_false] at hxb
      rcases hxb with rfl | rfl | rfl | rfl | rfl | rfl
      · exact .inl ⟨_, .non, by decide⟩
      · exact .inl ⟨_, .int _, by decide⟩
      · refine .inr (.inr ⟨b3, w0 ++ [0], rfl, .inl e3, by rw [List.length_append, List.length_singleton]; omega, fun t ht => ?_, ?_⟩)
        · rcases List.mem_append.mp ht with h | h
          · exact g3 t h
          · rw [List.mem_singleton.mp h]; decide
        · unfold KeptB
          rw [decide_eq_false, Bool.false_and]
          intro z
          have z2 := counts_sum (w0 ++ [0]) (fun t ht => by
            rcases List.mem_append.mp ht with h | h
            · exact g3 t h
            · rw [List.mem_singleton.mp h]; decide)
          rw [z, List.length_append, List.length_singleton] at z2
          omega
      · refine .inr (.inl ⟨b6, _, rfl, .inr (.inl e6), ?_, fun v hv => ?_, ?_⟩)
        · rw [List.length_append, List.length_drop, List.length_map]
          show wz.length - 1 + 1 ≤ 100000
          omega
        · rcases List.mem_append.mp hv with h | h
          · obtain ⟨t, _, rfl⟩ := nIs_mem (List.mem_of_mem_drop h)
            exact ⟨_, .int _⟩
          · rw [List.mem_singleton.mp h]
            exact ⟨_, .int _⟩
        · rw [List.all_append]
          have : (([V.int 4] : List V).all fun v => isTh v 3) = false := by decide
          rw [this, Bool.and_false]
      · exact .inl ⟨_, .str _, by decide⟩
      · refine .inr (.inl ⟨b7, _, rfl, .inr (.inl e7), by show 1 ≤ 100000; decide, fun v hv => ?_, rfl⟩)
        rw [List.mem_singleton.mp hv]
        exact ⟨_, .fz e0⟩
    -- [next_weaving, place_of]
    refine ⟨by show 2 ≤ sizeLine; decide, fun q3 hq3 => ?_⟩
    have f21 : Fr Tb [] H20 (upd H20 q3 (.lst [.ref a_next_weaving, .ref a_place_of])) := Fr.new hq3
    have hq21 : upd H20 q3 (.lst [.ref a_next_weaving, .ref a_place_of]) q3 = some (.lst [.ref a_next_weaving, .ref a_place_of]) := upd_same
    generalize upd H20 q3 (.lst [.ref a_next_weaving, .ref a_place_of]) = H21 at f21 hq21 ⊢
    refine ⟨q3, rfl, ⟨_, SqL.of hq21⟩, for_list (K := K) (a := q3) (xs := [.ref a_next_weaving, .ref a_place_of]) (fun i σ H' => ∃ x4, σ = [some (.ref d), some (.ref la), some xo, some (.ref ep), x4, some xb, none, none, none, none, none, none, none, none] ∧ LS Tb d l cc la ep c En vs H' ∧ BadWv H' c En xb ∧ H' q3 = some (.lst [.ref a_next_weaving, .ref a_place_of]))
      ⟨_, rfl, hS20.kx f21.x (f21.tabs hS20.tabs), f21.x.bad hbad, hq21⟩ (fun i σ H' _ ⟨_, _, _, _, h⟩ => SqL.of h) ?_ ?_⟩
    · rintro i x σ H' hx ⟨x4, rfl, hS, hb, hq'⟩
      refine ⟨hS.tabs, fun H22 x22 t22 => ?_⟩
      have b22 := (Kx.of x22).bad hb
      have S22 := hS.kx (Kx.of x22) t22
      have fin : ∀ H23 a, Fr Tb [] H22 H23 → H23 a = none → ∃ x4, [some (.ref d), some (.ref la), some xo, some (.ref ep), some x, some xb, none, none, none, none, none, none, none, none] = [some (.ref d), some (.ref la), some xo, some (.ref ep), x4, some xb, none, none, none, none, none, none, none, none] ∧ LS Tb d l cc la ep c En vs (upd H23 a (ExD (.ref a_BadWeaving) none a)) ∧ BadWv (upd H23 a (ExD (.ref a_BadWeaving) none a)) c En xb ∧ upd H23 a (ExD (.ref a_BadWeaving) none a) q3 = some (.lst [.ref a_next_weaving, .ref a_place_of]) := fun H23 a f23 ha => by
        have xx : Kx H' (upd H23 a (ExD (.ref a_BadWeaving) none a)) := (Kx.of x22).tr ((f23.upd_new ha).x)
        exact ⟨_, rfl, hS.kx xx ((f23.upd_new ha).tabs t22), xx.bad hb, xx.lst hq'⟩
      have hx' := List.mem_of_getElem? hx
      simp only [List.mem_cons, List.not_mem_nil, or_false] at hx'
      rcases hx' with rfl | rfl
      · exact .inl ⟨rfl, _, rfl, _, rfl, _, _, rfl, .inr ⟨la, c, En, rfl, S22.led, ok, .inl ⟨b22, fun H23 f23 => ⟨XW.m, fun a ha => ⟨a, a_BadWeaving, none, rfl, upd_same, fun dd e => (by cases e), XW.exc, _, rfl, iteF (fin H23 a f23 ha)⟩⟩⟩⟩⟩
      · exact .inr ⟨rfl, _, rfl, _, rfl, _, _, rfl, .inr ⟨la, c, En, rfl, S22.led, ok, t22, .inl ⟨b22, fun H23 f23 => ⟨XW.m, fun a ha => ⟨a, a_BadWeaving, none, rfl, upd_same, fun dd e => (by cases e), XW.exc, _, rfl, iteF (fin H23 a f23 ha)⟩⟩⟩⟩⟩
    rintro σ H22 ⟨x4, rfl, hS22, _, _⟩
    -- each entry away: what is more then does not keep the ledger
    obtain ⟨ca', ea', es', M1, M2, M3, M4⟩ := id hS22.led
    refine ⟨_, rfl, la, _, 1, _, rfl, rfl, SqT.of M1, rfl, ea', rfl, ⟨_, SqT.of M3⟩, for_tup (K := K) (a := ea') (xs := es') (fun i σ H' => ∃ x6 x7 x9, σ = [some (.ref d), some (.ref la), some xo, some (.ref ep), x4, some xb, x6, x7, none, x9, none, none, none, none] ∧ LS Tb d l cc la ep c En vs H' ∧ H' la = some (.tup [.ref ca', .ref ea']) ∧ H' ca' = some (.tup (nIs c)) ∧ H' ea' = some (.tup es') ∧ Refs EnAt H' es' En)
      ⟨none, none, none, rfl, hS22, M1, M2, M3, M4⟩ (fun i σ H' _ ⟨_, _, _, _, _, _, _, h, _⟩ => SqT.of h) ?_ ?_⟩
    · rintro i x σ H' hx ⟨x6, x7, x9, rfl, hS, N1, N2, N3, N4⟩
      obtain ⟨e, he, ex, rfl, hex⟩ := Paired.at N4 hx
      refine ⟨_, rfl, la, _, 0, _, rfl, rfl, SqT.of N1, rfl, _, rfl, la, _, 1, _, rfl, rfl, SqT.of N1, rfl, ea', rfl, ⟨_, SqT.of N3⟩, fun D hD => lc_tup (K := K) (a := ea') (xs := es') (fun j H2 => Fr Tb [] H' H2 ∧ ∃ zs, H2 D = some (.lst zs) ∧ Refs EnAt H2 zs ((En.take j).filter fun u => !decide (u = e))) ⟨Fr.new hD, [], upd_same, .nil⟩ (fun j H2 _ z => SqT.of (z.1.tup0 N3)) ?_ ?_⟩
      · rintro j y H2 hy ⟨f23, zs, hzs, hRz⟩
        obtain ⟨u, hu, ux, rfl, hux⟩ := Paired.at N4 hy
        have hj := (List.getElem?_eq_some_iff.mp hu).1
        have zlen : zs.length ≤ j := by
          rw [Paired.length hRz]
          refine Nat.le_trans (List.length_filter_le _ _) ?_
          rw [List.length_take]
          omega
        refine ⟨rfl, _, rfl, _, rfl, enD u, enD e, (hux.fr f23).dp, (hex.fr f23).dp, shapedE u, shapedE e, ?_⟩
        rw [eqvE]
        refine ⟨_, rfl, ?_⟩
        by_cases hue : u = e
        · rw [decide_eq_true hue]
          refine iteF ⟨f23, zs, hzs, ?_⟩
          rw [take_snoc hu, List.filter_append]
          simpa [hue] using hRz
        · rw [decide_eq_false hue]
          refine iteT ⟨_, rfl, _, hzs, ?_, f23.lstw (.inl hD) hzs, _, upd_same, ?_⟩
          · have := ok.few
            exact Nat.lt_of_lt_of_le (by omega : zs.length < 100000) (by decide)
          · rw [take_snoc hu, List.filter_append]
            have z : List.filter (fun u => !decide (u = e)) [u] = [u] := by simp [hue]
            rw [z]
            have kp : ∀ b v, EnAt H2 b v → EnAt (upd H2 D (.lst (zs ++ [.ref ux]))) b v := fun b v ⟨p, q, z1, z2, z3⟩ => ⟨p, q, by rw [upd_ne (ne_of z1 hzs (by intro z; cases z))]; exact z1, by
              show upd H2 D _ p = _
              rw [upd_ne (ne_of (show H2 p = some (.tup _) from z2) hzs (by intro z; cases z))]; exact z2, by
              show upd H2 D _ q = _
              rw [upd_ne (ne_of (show H2 q = some (.tup _) from z3) hzs (by intro z; cases z))]; exact z3⟩
            exact Paired.snoc ⟨ux, rfl, kp _ _ (hux.fr f23)⟩ (hRz.fr kp)
      · rintro H2 ⟨f23, zs, hzs, hRz⟩
        rw [show es'.length = En.length from Paired.length N4, List.take_length] at hRz
        have ein' : EIn (En.filter fun u => !decide (u = e)) := fun u hu => ok.ein u (List.mem_filter.mp hu).1
        have len' : (En.filter fun u => !decide (u = e)).length ≤ 1000 := Nat.le_trans (List.length_filter_le _ _) ok.few
        generalize En.filter (fun u => !decide (u = e)) = E' at hRz ein' len'
        refine ⟨D, zs, rfl, .inl ⟨SqL.of hzs, fun dp hdp => ?_⟩⟩
        have f24 : Fr Tb [] H2 (upd H2 dp (.tup zs)) := Fr.new hdp
        have hd24 : upd H2 dp (.tup zs) dp = some (.tup zs) := upd_same
        generalize upd H2 dp (.tup zs) = H3 at f24 hd24 ⊢
        refine ⟨by show 2 ≤ sizeLine; decide, fun rp hrp => ?_⟩
        have f25 : Fr Tb [] H3 (upd H3 rp (.tup [.ref ca', .ref dp])) := Fr.new hrp
        have hr25 : upd H3 rp (.tup [.ref ca', .ref dp]) rp = some (.tup [.ref ca', .ref dp]) := upd_same
        show tSeq _ _ _ _ (upd H3 rp (.tup [.ref ca', .ref dp]))
        generalize upd H3 rp (.tup [.ref ca', .ref dp]) = H4 at f25 hr25 ⊢
        have f04' := f23.trans (f24.trans f25)
        have hLr : LedAt H4 rp c E' := ⟨ca', dp, zs, hr25, f04'.tup0 N2, f25.tup0 hd24, hRz.fr fun a u z => z.fr (f24.trans f25)⟩
        refine ⟨_, rfl, 10, 9, rfl, rfl, ⟨by decide, by decide, by decide⟩, rp, c, E', rfl, hLr, ok.len, ein', len', hsum, fun H5 tw tvs f26 htw0 htw hRt => ?_⟩
        have f05' := f04'.trans f26
        have S5 := hS.kx f05'.x (f05'.tabs hS.tabs)
        have tlen : tvs.length ≤ 65536 := by
          rw [Paired.length hRt]
          exact Nat.le_trans (every_le c E') (pow4 hsum)
        refine ⟨tw, rfl, ⟨_, SqL.of htw⟩, fun D2 hD2 => lc_list (K := K) (a := tw) (xs := tvs) (fun j H6 => Fr Tb [] H5 H6 ∧ ∃ us ls, H6 D2 = some (.lst us) ∧ Refs FzAt H6 us ls ∧ us.length ≤ j ∧ ∀ l ∈ ls, l ∈ every c E' ∧ l ∉ every c En) ⟨Fr.new hD2, [], [], upd_same, .nil, Nat.le_refl _, by simp⟩ (fun j H6 _ z => SqL.of (z.1.lst0 htw)) ?_ ?_⟩
        · rintro j y H6 hy ⟨f27, us, ls, hus, hRu, ulen, hls⟩
          obtain ⟨lw, hlw, yp, rfl, hyp⟩ := Paired.at hRt hy
          have hj := (List.getElem?_eq_some_iff.mp hy).1
          refine ⟨rfl, _, rfl, _, rfl, .tuple (nD lw), _, dpTup (f27.fz0 hyp).sq, dpLL (f27.lst0 S5.ev) (S5.refs.fr fun a w z => f27.fz0 z), shapedT _, shapedLL _, ?_⟩
          rw [anyLL]
          refine ⟨_, rfl, ?_⟩
          by_cases hin : lw ∈ every c En
          · rw [decide_eq_true hin]
            exact iteF ⟨f27, us, ls, hus, hRu, by omega, hls⟩
          · rw [decide_eq_false hin]
            refine iteT ⟨_, rfl, _, hus, Nat.lt_of_lt_of_le (by omega : us.length < 100000) (by decide), f27.lstw (.inl hD2) hus, _, ls ++ [lw], upd_same, ?_, by rw [List.length_append, List.length_singleton]; omega, fun l' hl' => ?_⟩
            · have kp : ∀ b v, FzAt H6 b v → FzAt (upd H6 D2 (.lst (us ++ [.ref yp]))) b v := fun b v ⟨o, z1, z2⟩ => ⟨o, z1, by rw [upd_ne (ne_of z2 hus (by intro z; cases z))]; exact z2⟩
              exact Paired.snoc ⟨yp, rfl, kp _ _ (f27.fz0 hyp)⟩ (hRu.fr kp)
            · rcases List.mem_append.mp hl' with h | h
              · exact hls l' h
              · rw [List.mem_singleton.mp h]
                exact ⟨List.mem_of_getElem? hlw, hin⟩
        · rintro H6 ⟨f27, us, ls, hus, hRu, ulen, hls⟩
          have f06' := f05'.trans f27
          refine ⟨_, rfl, by show 0 ≤ sizeLine; decide, fun b9 hb9 => ?_⟩
          have f28 : Fr Tb [] H6 (upd H6 b9 (.lst [])) := Fr.new hb9
          have hb28 : upd H6 b9 (.lst []) b9 = some (.lst []) := upd_same
          generalize upd H6 b9 (.lst []) = H7 at f28 hb28 ⊢
          have f07' := f06'.trans f28
          have S7 := hS.kx f07'.x (f07'.tabs hS.tabs)
          have done : ∀ H', Kx H7 H' → Tabs Tb H' → LS Tb d l cc la ep c En vs H' ∧ H' la = some (.tup [.ref ca', .ref ea']) ∧ H' ca' = some (.tup (nIs c)) ∧ H' ea' = some (.tup es') ∧ Refs EnAt H' es' En := fun H' x t => by
            have xx := f07'.x.tr x
            exact ⟨hS.kx xx t, xx.tup N1, xx.tup N2, xx.tup N3, N4.fr fun a u z => xx.en z⟩
          refine ⟨.list (ls.map fun l => .tuple (nD l)), .list [], dpLL (f28.lst0 hus) (hRu.fr fun a w z => f28.fz0 z), .lst (SqL.of hb28) .nil, shapedLL ls, shapedL [], ?_⟩
          cases ls with
          | nil =>
            have e0 : PyData.eqv (.list (([] : List (List Nat)).map fun l => PyData.tuple (nD l))) (.list []) = true := by simp [PyData.eqv, PyData.eqvAll]
            rw [e0]
            exact ⟨_, rfl, iteF (iteF ⟨_, _, _, rfl, done H7 .refl S7.tabs⟩)⟩
          | cons lw ls =>
            have e0 : PyData.eqv (.list ((lw :: ls).map fun l => PyData.tuple (nD l))) (.list []) = false := by simp [PyData.eqv, PyData.eqvAll]
            rw [e0]
            refine ⟨_, rfl, iteT ⟨S7.tabs, fun H8 x8 t8 => ?_⟩⟩
            obtain ⟨u0', hu0', tp0, rfl, htp0⟩ := Paired.at2 hRu (show (lw :: ls)[0]? = some lw from rfl)
            have hin := hls lw List.mem_cons_self
            have k8 := Kx.of x8
            have h4' := Path.lt4 ((mem_every ok.len).mp hin.1)
            have hbad8 : BadWv H8 c En (.ref tp0) := by
              refine .inr (.inr ⟨tp0, lw, rfl, .inr (k8.fz (f28.fz0 htp0)), ?_, h4', ?_⟩)
              · have z := ((mem_every ok.len).mp hin.1).length (Le.zero ok.len)
                unfold rem at z
                omega
              · cases hk : KeptB c En lw with
                | false => rfl
                | true => exact absurd ((mem_every ok.len).mpr ((kept_iff ok.ents ok.len h4').mp hk)) hin.2
            refine ⟨_, rfl, _, rfl, D2, us, 0, _, rfl, rfl, SqL.of (k8.lst (f28.lst0 hus)), atI_nat (j := 0) hu0', _, _, rfl, .inr ⟨la, c, En, rfl, k8.led S7.led, ok, t8, .inl ⟨hbad8, fun H9 f9 => ⟨XW.m, fun a ha => ⟨a, a_BadWeaving, none, rfl, upd_same, fun dd e => (by cases e), XW.exc, _, rfl, iteF ⟨_, _, _, rfl, done _ (k8.tr (f9.upd_new ha).x) ((f9.upd_new ha).tabs t8)⟩⟩⟩⟩⟩⟩
    · rintro σ H23 ⟨x6, x7, x9, rfl, hS23, _, _, _, _⟩
      refine ⟨hS23.tabs, fun H24 x24 t24 => ?_⟩
      have S24 := hS23.kx (Kx.of x24) t24
      refine ⟨_, rfl, _, rfl, _, rfl, _, rfl, ep, vs, rfl, .inl (SqL.of S24.ev), by show 5 ≤ sizeLine; decide, fun n1 hn1 => ?_⟩
      have f25 : Fr Tb [] H24 (upd H24 n1 (.lst [.int (-1), .int vs.length, .non, .bl true, .str (Str.ofString "0")])) := Fr.new hn1
      have hn25 : upd H24 n1 (.lst [.int (-1), .int vs.length, .non, .bl true, .str (Str.ofString "0")]) n1 = some (.lst [.int (-1), .int vs.length, .non, .bl true, .str (Str.ofString "0")]) := upd_same
      have nn1 := S24.dr.new hn1
      generalize upd H24 n1 (.lst [.int (-1), .int vs.length, .non, .bl true, .str (Str.ofString "0")]) = H25 at f25 hn25 ⊢
      have hd25 := S24.dr.fr (S := []) f25
      refine ⟨d, l, cc, n1, _, rfl, hd25, hn25, nn1.1, by show 0 < 5; decide, by show 5 ≤ 100000; decide, fun H26 xn f26 hd26 hxn => ?_⟩
      have led26 := drLed hd25 f26 (S24.led.fr f25)
      have t26 := f26.tabs (f25.tabs t24)
      simp only [List.mem_cons, List.not_mem_nil, or_false] at hxn
      refine ⟨_, _, rfl, .inr ⟨la, c, En, rfl, led26, ok, t26, ?_, fun nf => absurd few nf, fun _ _ H27 dx f27 hdx => ⟨XN.m, fun a ha => ?_⟩, fun _ n hn hnw => ?_⟩⟩
      · rcases hxn with rfl | rfl | rfl | rfl | rfl
        · exact ⟨_, .int _⟩
        · exact ⟨_, .int _⟩
        · exact ⟨_, .non⟩
        · exact ⟨_, .bl _⟩
        · exact ⟨_, .str _⟩
      rotate_left
      · rcases hxn with rfl | rfl | rfl | rfl | rfl
        · injection hn with hn
          omega
        · injection hn with hn
          omega
        · cases hn
        · cases hn
        · cases hn
      have t27 := f27.tabs t26
      refine ⟨_, rfl, a, a_BadNumber, some dx, rfl, upd_same, fun dd e => (by cases e; exact ⟨_, isx_ok ha hdx⟩), XN.exc, _, rfl, iteF ?_⟩
      refine ⟨_, rfl, a, a_BadNumber, dx, _, _, rfl, upd_same, isx_ok ha hdx, rfl, fN, nN, rfl, _, rfl, ?_⟩
      rw [neF rfl]
      refine iteF ?_
      have t28 : Tabs Tb (upd H27 a (ExD (.ref a_BadNumber) (some dx) a)) := (f27.upd_new ha).tabs t26
      generalize upd H27 a (ExD (.ref a_BadNumber) (some dx) a) = H28 at t28 ⊢
      -- the great ledger
      refine ⟨by show 4 ≤ sizeLine; decide, fun g1 hg1 => ⟨by show 0 ≤ sizeLine; decide, fun g2 hg2 => ⟨by show 2 ≤ sizeLine; decide, fun gp hgp => ?_⟩⟩⟩
      have f29 : Fr Tb [] H28 (upd H28 g1 (.tup (nIs cG))) := Fr.new hg1
      have hg29 : upd H28 g1 (.tup (nIs cG)) g1 = some (.tup (nIs cG)) := upd_same
      have ff := led0 (Tb := Tb) hg29 hg2 hgp
      show tSeq _ _ _ _ (upd (upd (upd H28 g1 (.tup (nIs cG))) g2 (.tup [])) gp (.tup [.ref g1, .ref g2]))
      generalize upd (upd (upd H28 g1 (.tup (nIs cG))) g2 (.tup [])) gp (.tup [.ref g1, .ref g2]) = H30 at ff ⊢
      obtain ⟨f30, ledG⟩ := ff
      have t30 := f30.tabs (f29.tabs t28)
      refine ⟨by show 2 ≤ sizeLine; decide, fun q4 hq4 => ?_⟩
      have f31 : Fr Tb [] H30 (upd H30 q4 (.lst [.ref a_how_many, .ref a_least_weaving])) := Fr.new hq4
      have hq31 : upd H30 q4 (.lst [.ref a_how_many, .ref a_least_weaving]) q4 = some (.lst [.ref a_how_many, .ref a_least_weaving]) := upd_same
      generalize upd H30 q4 (.lst [.ref a_how_many, .ref a_least_weaving]) = H31 at f31 hq31 ⊢
      refine ⟨q4, rfl, ⟨_, SqL.of hq31⟩, for_list (K := K) (a := q4) (xs := [.ref a_how_many, .ref a_least_weaving]) (fun i σ H' => ∃ x4 x11, σ = [some (.ref d), some (.ref la), some xo, some (.ref ep), x4, some xb, x6, x7, none, x9, none, x11, some (.ref gp), none] ∧ Tabs Tb H' ∧ LedAt H' gp cG [] ∧ H' q4 = some (.lst [.ref a_how_many, .ref a_least_weaving]))
        ⟨_, _, rfl, f31.tabs t30, ledG.fr f31, hq31⟩ (fun i σ H' _ ⟨_, _, _, _, _, h⟩ => SqL.of h) ?_ ?_⟩
      · rintro i x σ H' hx ⟨x4', x11, rfl, tb, led, hq'⟩
        refine ⟨tb, fun H32 x32 t32 => ?_⟩
        have k32 := Kx.of x32
        have hx' := List.mem_of_getElem? hx
        simp only [List.mem_cons, List.not_mem_nil, or_false] at hx'
        rcases hx' with rfl | rfl
        · refine .inl ⟨rfl, _, rfl, _, rfl, .inr ⟨gp, cG, [], rfl, k32.led led, okG, t32, fun fw => absurd fw nfG, fun _ H33 dx f33 hdx => ⟨XM.m, fun a ha => ?_⟩⟩⟩
          refine ⟨_, rfl, a, a_TooMany, some dx, rfl, upd_same, fun dd e => (by cases e; exact ⟨_, isx_ok ha hdx⟩), XM.exc, _, rfl, iteF ?_⟩
          refine ⟨_, rfl, a, a_TooMany, dx, _, _, rfl, upd_same, isx_ok ha hdx, rfl, fM, nM, rfl, _, rfl, ?_⟩
          rw [neF rfl]
          have kk := k32.tr (f33.upd_new (o := ExD (.ref a_TooMany) (some dx) a) ha).x
          exact iteF ⟨_, _, rfl, (f33.upd_new ha).tabs t32, kk.led led, kk.lst hq'⟩
        · refine .inr ⟨rfl, _, rfl, _, rfl, .inr ⟨gp, cG, [], rfl, k32.led led, okG, fun fw => absurd fw nfG, fun _ H33 dx f33 hdx => ⟨XM.m, fun a ha => ?_⟩⟩⟩
          refine ⟨_, rfl, a, a_TooMany, some dx, rfl, upd_same, fun dd e => (by cases e; exact ⟨_, isx_ok ha hdx⟩), XM.exc, _, rfl, iteF ?_⟩
          refine ⟨_, rfl, a, a_TooMany, dx, _, _, rfl, upd_same, isx_ok ha hdx, rfl, fM, nM, rfl, _, rfl, ?_⟩
          rw [neF rfl]
          have kk := k32.tr (f33.upd_new (o := ExD (.ref a_TooMany) (some dx) a) ha).x
          exact iteF ⟨_, _, rfl, (f33.upd_new ha).tabs t32, kk.led led, kk.lst hq'⟩
      rintro σ H33 ⟨x4', x11, rfl, t33, led33, _⟩
      -- the last loop: the values
      refine ⟨by show 3 ≤ sizeLine; decide, fun a1 ha1 => ?_⟩
      have f34 : Fr Tb [] H33 (upd H33 a1 (.tup [.int 0, .int 1, .int 2])) := Fr.new ha1
      have ha34 : upd H33 a1 (.tup [.int 0, .int 1, .int 2]) a1 = some (.tup [.int 0, .int 1, .int 2]) := upd_same
      generalize upd H33 a1 (.tup [.int 0, .int 1, .int 2]) = H34 at f34 ha34 ⊢
      refine rep_read (T := Tb) ha34 (by simp) (by show 3 ≤ 1000; decide) fun r1 H35 f35 hr1 => ?_
      refine ⟨by show 2 ≤ sizeLine; decide, fun c1 hc1 => ?_⟩
      have f36 : Fr Tb [] H35 (upd H35 c1 (.tup [.ref a_next_weaving, .ref r1])) := Fr.new hc1
      have hc36 : upd H35 c1 (.tup [.ref a_next_weaving, .ref r1]) c1 = some (.tup [.ref a_next_weaving, .ref r1]) := upd_same
      generalize upd H35 c1 (.tup [.ref a_next_weaving, .ref r1]) = H36 at f36 hc36 ⊢
      -- (2,) * 27 + (1,) * 27 + (0,) * 27
      refine ⟨by show 1 ≤ sizeLine; decide, fun a2 ha2 => ?_⟩
      have f37 : Fr Tb [] H36 (upd H36 a2 (.tup [.int 2])) := Fr.new ha2
      have ha37 : upd H36 a2 (.tup [.int 2]) a2 = some (.tup [.int 2]) := upd_same
      generalize upd H36 a2 (.tup [.int 2]) = H37 at f37 ha37 ⊢
      refine rep_read (T := Tb) ha37 (by simp) (by show 1 ≤ 1000; decide) fun r2 H38 f38 hr2' => ?_
      refine ⟨by show 1 ≤ sizeLine; decide, fun a3 ha3 => ?_⟩
      have f39 : Fr Tb [] H38 (upd H38 a3 (.tup [.int 1])) := Fr.new ha3
      have ha39 : upd H38 a3 (.tup [.int 1]) a3 = some (.tup [.int 1]) := upd_same
      generalize upd H38 a3 (.tup [.int 1]) = H39 at f39 ha39 ⊢
      refine rep_read (T := Tb) ha39 (by simp) (by show 1 ≤ 1000; decide) fun r3 H40 f40 hr3 => ?_
      refine cat_read (T := Tb) ((f39.trans f40).fz0 hr2') hr3 (by decide) (by decide) (by decide) fun r4 H41 f41 hr4 => ?_
      refine ⟨by show 1 ≤ sizeLine; decide, fun a4 ha4 => ?_⟩
      have f42 : Fr Tb [] H41 (upd H41 a4 (.tup [.int 0])) := Fr.new ha4
      have ha42 : upd H41 a4 (.tup [.int 0]) a4 = some (.tup [.int 0]) := upd_same
      generalize upd H41 a4 (.tup [.int 0]) = H42 at f42 ha42 ⊢
      refine rep_read (T := Tb) ha42 (by simp) (by show 1 ≤ 1000; decide) fun r5 H43 f43 hr5 => ?_
      refine cat_read (T := Tb) ((f42.trans f43).fz0 hr4) hr5 (by decide) (by decide) (by decide) fun r6 H44 f44 hr6 => ?_
      refine ⟨by show 2 ≤ sizeLine; decide, fun c2 hc2 => ?_⟩
      have f45 : Fr Tb [] H44 (upd H44 c2 (.tup [.ref a_place_of, .ref r6])) := Fr.new hc2
      have hc45 : upd H44 c2 (.tup [.ref a_place_of, .ref r6]) c2 = some (.tup [.ref a_place_of, .ref r6]) := upd_same
      generalize upd H44 c2 (.tup [.ref a_place_of, .ref r6]) = H45 at f45 hc45 ⊢
      refine ⟨_, rfl, by show 2 ≤ sizeLine; decide, fun c3 hc3 => ?_⟩
      have f46 : Fr Tb [] H45 (upd H45 c3 (.tup [.ref a_weaving_at, .int (-1)])) := Fr.new hc3
      have hc46 : upd H45 c3 (.tup [.ref a_weaving_at, .int (-1)]) c3 = some (.tup [.ref a_weaving_at, .int (-1)]) := upd_same
      generalize upd H45 c3 (.tup [.ref a_weaving_at, .int (-1)]) = H46 at f46 hc46 ⊢
      refine ⟨by show 3 ≤ sizeLine; decide, fun q5 hq5 => ?_⟩
      have f47 : Fr Tb [] H46 (upd H46 q5 (.lst [.ref c1, .ref c2, .ref c3])) := Fr.new hq5
      have hq47 : upd H46 q5 (.lst [.ref c1, .ref c2, .ref c3]) q5 = some (.lst [.ref c1, .ref c2, .ref c3]) := upd_same
      generalize upd H46 q5 (.lst [.ref c1, .ref c2, .ref c3]) = H47 at f47 hq47 ⊢
      have e3647 : Fr Tb [] H36 H47 := f37.trans (f38.trans (f39.trans (f40.trans (f41.trans (f42.trans (f43.trans (f44.trans (f45.trans (f46.trans f47)))))))))
      have e3347 : Fr Tb [] H33 H47 := f34.trans (f35.trans (f36.trans e3647))
      refine ⟨q5, rfl, ⟨_, SqL.of hq47⟩, for_list (K := K) (a := q5) (xs := [.ref c1, .ref c2, .ref c3]) (fun i σ H' => ∃ x4 x11 x13, σ = [some (.ref d), some (.ref la), some xo, some (.ref ep), x4, some xb, x6, x7, none, x9, none, x11, some (.ref gp), x13] ∧ Tabs Tb H' ∧ Kx H47 H')
        ⟨_, _, _, rfl, e3347.tabs t33, .refl⟩ (fun i σ H' _ ⟨_, _, _, _, _, h⟩ => SqL.of (h.lst hq47)) ?_ ?_⟩
      · rintro i x σ H' hx ⟨x4', x11, x13, rfl, tb, kx⟩
        have hx' := List.mem_of_getElem? hx
        simp only [List.mem_cons, List.not_mem_nil, or_false] at hx'
        have led' : ∀ {H''}, Kx H' H'' → LedAt H'' gp cG [] := fun z => (e3347.x.tr (kx.tr z)).led led33
        rcases hx' with rfl | rfl | rfl
        · refine ⟨c1, _, rfl, SqT.of (kx.tup (e3647.tup0 hc36)), rfl, _, _, rfl, _, _, rfl, rfl, ?_⟩
          refine ⟨tb, fun H48 x48 t48 => ?_⟩
          have k48 := Kx.of x48
          have hw : FzT H48 r1 (nIs wG1) := k48.fz (kx.fz ((f36.trans e3647).fz0 hr1))
          refine .inl ⟨rfl, _, rfl, _, rfl, _, _, rfl, .inr ⟨gp, cG, [], rfl, led' k48, okG, .inr ⟨r1, wG1, good1 hw, fun _ H49 dx f49 hdx => ⟨XM.m, fun a ha => ?_⟩, fun fw => absurd fw nfG⟩⟩⟩
          refine ⟨_, rfl, a, a_TooMany, some dx, rfl, upd_same, fun dd e => (by cases e; exact ⟨_, isx_ok ha hdx⟩), XM.exc, _, rfl, iteF ?_⟩
          refine ⟨_, rfl, a, a_TooMany, dx, _, _, rfl, upd_same, isx_ok ha hdx, rfl, fM, nM, rfl, _, rfl, ?_⟩
          rw [neF rfl]
          exact iteF ⟨_, _, _, rfl, (f49.upd_new ha).tabs t48, kx.tr (k48.tr (f49.upd_new ha).x)⟩
        · refine ⟨c2, _, rfl, SqT.of (kx.tup ((f46.trans f47).tup0 hc45)), rfl, _, _, rfl, _, _, rfl, rfl, ?_⟩
          refine ⟨tb, fun H48 x48 t48 => ?_⟩
          have k48 := Kx.of x48
          have hw : FzT H48 r6 (nIs wG2) := k48.fz (kx.fz ((f45.trans (f46.trans f47)).fz0 hr6))
          refine .inr (.inl ⟨rfl, _, rfl, _, rfl, _, _, rfl, .inr ⟨gp, cG, [], rfl, led' k48, okG, t48, .inr ⟨r6, wG2, good2 hw, fun _ H49 dx f49 hdx => ⟨XM.m, fun a ha => ?_⟩, fun fw => absurd fw nfG⟩⟩⟩)
          refine ⟨_, rfl, a, a_TooMany, some dx, rfl, upd_same, fun dd e => (by cases e; exact ⟨_, isx_ok ha hdx⟩), XM.exc, _, rfl, iteF ?_⟩
          refine ⟨_, rfl, a, a_TooMany, dx, _, _, rfl, upd_same, isx_ok ha hdx, rfl, fM, nM, rfl, _, rfl, ?_⟩
          rw [neF rfl]
          exact iteF ⟨_, _, _, rfl, (f49.upd_new ha).tabs t48, kx.tr (k48.tr (f49.upd_new ha).x)⟩
        · refine ⟨c3, _, rfl, SqT.of (kx.tup (f47.tup0 hc46)), rfl, _, _, rfl, _, _, rfl, rfl, ?_⟩
          refine ⟨tb, fun H48 x48 t48 => ?_⟩
          have k48 := Kx.of x48
          refine .inr (.inr ⟨rfl, _, rfl, _, rfl, _, _, rfl, .inr ⟨gp, cG, [], rfl, led' k48, okG, t48, ⟨_, .int _⟩, fun _ H49 dx f49 hdx => ⟨XM.m, fun a ha => ?_⟩, fun fw => absurd fw nfG, fun fw => absurd fw nfG⟩⟩)
          refine ⟨_, rfl, a, a_TooMany, some dx, rfl, upd_same, fun dd e => (by cases e; exact ⟨_, isx_ok ha hdx⟩), XM.exc, _, rfl, iteF ?_⟩
          refine ⟨_, rfl, a, a_TooMany, dx, _, _, rfl, upd_same, isx_ok ha hdx, rfl, fM, nM, rfl, _, rfl, ?_⟩
          rw [neF rfl]
          exact iteF ⟨_, _, _, rfl, (f49.upd_new ha).tabs t48, kx.tr (k48.tr (f49.upd_new ha).x)⟩
      · rintro σ H48 ⟨_, _, _, rfl, _, _⟩
        exact k H48
end
end K81
set_option maxHeartbeats 4000000
namespace K81
open PySem PySem.Spec PyProof.Rows L2 LamX K81M StX RZ
section
variable {P : Program} {w : World} {K : PySem.W.Frag} {mg : Str → Option Value} {base : Heap} {Tb : List (Addr × Str)} {f : Addr} {fd : FuncData}
/-! ### law -/
def spLaw (K : PySem.W.Frag) (Tb : List (Addr × Str)) : Sp := fun vs H Q _ => ∃ a ns, vs = [.ref a] ∧ SqL K H a (List.map V.int ns) ∧ ns.length ≤ 1000 ∧ Tabs Tb H ∧ ∀ H', Q (.bl true) H'
theorem sc_law : FnScope ["_law_script", "_law_draw", "_law_turn", "_law_ledger_here"] ["_law_script"] (defScope (top 57)) := ⟨rfl, rfl, rfl, by decide +kernel, rfl, by decide +kernel, by decide +kernel⟩
theorem ok_law (F : Fun K "law" "law" (top 57) f fd) (T : Txt mg) (C__law_begun : Cl P w K mg base CX0 1 "_law_begun" (spBegun K Tb)) (C__law_ledger : Cl P w K mg base CX0 5 "_law_ledger" (spLLed Tb)) (C__law_listed_right : ClG P w K mg base CX0 9 "_law_listed_right" (spListed Tb))
    (C__law_mixed_right : Cl P w K mg base CX0 9 "_law_mixed_right" (spMixR Tb)) (C__law_refused : Cl P w K mg base CX0 11 "_law_refused" (spRefused Tb)) : FnG P w K mg base CX0 12 f fd ["_law_script"] (spLaw K Tb) := by
  refine K81.Fun.okG F sc_law (fun vs H Q E h => ?_) (fun cdv A outer s H vs Q E hgd hr h => ?_)
  · obtain ⟨a, ns, rfl, h⟩ := h
    rfl
  · obtain ⟨a, ns, rfl, h⟩ := h
    refine ⟨_, 
      (pss_cons (ps_set (i := 1) sc_law.nd rfl (by first | exact Or.inl rfl | exact Or.inr rfl) (cl0 C__law_begun hr (by decide) (by rfl) (pa_cons (pv 0) pa_nil)))
      (pss_cons (ps_for PassesOwn.never rfl (pi_range1 (by rfl) T.f_range (pa_cons pe_int pa_nil)) (pg_name (i := 2) sc_law.nd rfl (by first | exact Or.inl rfl | exact Or.inr rfl))
      (pss_cons (ps_set (i := 3) sc_law.nd rfl (by first | exact Or.inl rfl | exact Or.inr rfl) (cl0 C__law_ledger hr (by decide) (by rfl) (pa_cons (pv 1) (pa_cons pe_int pa_nil))))
      (pss_one (ps_if (pt_not (pt_val (clG C__law_listed_right hgd hr (by decide) (by rfl) (pa_cons (pv 1) (pa_cons (pv 3) pa_nil)))))
      (pss_one (ps_ret pe_bl)) pss_nil))))
      (pss_one (ps_ret (pe_and (cl0 C__law_mixed_right hr (by decide) (by rfl) (pa_cons (pv 1) pa_nil)) (pe_one (cl0 C__law_refused hr (by decide) (by rfl) (pa_cons (pv 1) (pa_cons (pv 3) pa_nil)))))))))
      , ?_⟩
    obtain ⟨ha, hn, hT, k⟩ := h
    refine ⟨_, rfl, a, ns, rfl, ha, hn, fun H1 d l cc f1 hd0 hl0 hd1 => ?_⟩
    refine ⟨2, rfl, by decide, by decide, for_range (lo := 0) (n := 2) (fun i σ H' => ∃ x2 x3, σ = [some (.ref a), some (.ref d), x2, x3] ∧ DrawAt H' d l cc ∧ Tabs Tb H' ∧ (0 < i → ∃ la c E, x3 = some (.ref la) ∧ LedAt H' la c E ∧ LedOk c E ∧ c.sum ≤ 8)) ⟨none, none, rfl, hd1, f1.tabs hT, fun z => absurd z (Nat.lt_irrefl 0)⟩ ?_ ?_⟩
    · rintro i σ H2 hi ⟨x2, x3, rfl, hd2, hT2, _⟩
      refine ⟨_, rfl, d, l, cc, rfl, hd2, fun H3 la c En f3 hd3 hL ok hs => ?_⟩
      refine ⟨_, rfl, _, rfl, d, l, cc, la, c, En, rfl, hd3, hL, ok, hs, f3.tabs hT2, fun H4 f4 hd4 => ⟨_, rfl, iteF ⟨_, _, rfl, hd4, f4.tabs (f3.tabs hT2), fun _ => ⟨la, c, En, rfl, drLed hd3 f4 hL, ok, hs⟩⟩⟩⟩
    · rintro σ H2 ⟨x2, x3, rfl, hd2, hT2, h⟩
      obtain ⟨la, c, En, rfl, hL, ok, hs⟩ := h (by decide)
      refine ⟨_, rfl, d, l, cc, rfl, hd2, hT2, fun H3 f3 hd3 => ⟨_, rfl, iteT ⟨_, rfl, _, rfl, d, l, cc, la, c, En, rfl, hd3, drLed hd2 f3 hL, ok, hs, f3.tabs hT2, fun H4 => k H4⟩⟩⟩
end
end K81
set_option maxHeartbeats 4000000
namespace K81
open PySem PySem.Spec PyProof.Rows L2 LamX K81M StX RZ
section
variable {K : PySem.W.Frag} {mg mb : Str → Option Value} {cs : List (Addr × Addr)} {s₁ : Shared} {H : Hp} {a : Addr} {vs : List Value}
/-- what the caller's heap tells, and what of it is tracked: the tables, perhaps the script -/
structure Cal (K : PySem.W.Frag) (mg mb : Str → Option Value) (cs : List (Addr × Addr)) (s₁ : Shared) (a : Addr) (vs : List Value) (H : Hp) : Prop where
  KX : K.In s₁.heap
  ns : s₁.heap.Ns mainGlobals mg
  nb : s₁.heap.Ns builtinsNs mb
  bb : ∀ x : Str, x ≠ "__name__" → mb x = bootBuiltins x
  lim : s₁.heap.NoLimit
  hT : ∀ p ∈ cs, s₁.heap.get? p.2 = some { cls := .none, data := .fields #[] }
  nT : ∀ p ∈ cs, K.lookup p.2 = none
  C : ∀ p ∈ cs, PySem.W.CodeHd s₁.heap p.1 p.2
  bm : ∃ (bm : Addr) (ob : Obj), mg "__builtins__" = some (.ref bm) ∧ bm ≠ builtinsNs ∧ s₁.heap.get? bm = some ob ∧ ob.cls = .type "module" ∧ ob.dict = some builtinsNs ∧ ob.data = .plain
  ha : s₁.heap.get? a = some { cls := .type "list", data := .seq vs.toArray }
  tr : ∀ b, H b ≠ none → b = a ∨ ∃ p ∈ cs, b = p.2
  sc : H a ≠ none → K.lookup a = none
/-- of which kind what is tracked is -/
theorem Cal.kind (c : Cal K mg mb cs s₁ a vs H) {b : Addr} {o : Obj} (e : s₁.heap.get? b = some o) (h : H b ≠ none) : (∃ xs n, o.data = .seq xs n) ∨ o.data = .fields #[] := by
  rcases c.tr b h with rfl | ⟨p, hp, rfl⟩
  · rw [c.ha] at e
    cases e
    exact .inl ⟨_, _, rfl⟩
  · rw [c.hT p hp] at e
    cases e
    exact .inr rfl
theorem Cal.none_of (c : Cal K mg mb cs s₁ a vs H) {b : Addr} {o : Obj} (e : s₁.heap.get? b = some o) (h1 : ∀ xs n, o.data ≠ .seq xs n) (h2 : o.data ≠ .fields #[]) : H b = none := by
  cases q : H b with
  | none => rfl
  | some u =>
    rcases c.kind e (by rw [q]; simp) with ⟨xs, n, z⟩ | z
    · exact absurd z (h1 xs n)
    · exact absurd z h2
theorem Cal.hid (c : Cal K mg mb cs s₁ a vs H) {b : Addr} {o : Obj} (e : s₁.heap.get? b = some o) (h1 : ∀ xs n, o.data ≠ .seq xs n) (h2 : o.data ≠ .fields #[]) : (hidT s₁.heap H).get? b = some o := hidT_get e (c.none_of e h1 h2)
theorem Cal.nsH (c : Cal K mg mb cs s₁ a vs H) {b : Addr} {m : Str → Option Value} (h : s₁.heap.Ns b m) : (hidT s₁.heap H).Ns b m := by
  obtain ⟨o, es, ep, e, d, r⟩ := h
  exact ⟨o, es, ep, c.hid e (fun _ _ z => by rw [d] at z; cases z) (fun z => by rw [d] at z; cases z), d, r⟩
theorem Cal.kin (c : Cal K mg mb cs s₁ a vs H) : K.In (hidT s₁.heap H) := fun b o e => hidT_get (c.KX b o e) (by
  cases q : H b with
  | none => rfl
  | some u =>
    rcases c.tr b (by rw [q]; simp) with rfl | ⟨p, hp, rfl⟩
    · rw [c.sc (by rw [q]; simp)] at e
      cases e
    · rw [c.nT p hp] at e
      cases e)
theorem Cal.mod (c : Cal K mg mb cs s₁ a vs H) : L2.Mod K mg (hidT s₁.heap H) := by
  obtain ⟨mc, h1, h2⟩ := c.lim
  exact ⟨c.kin, c.nsH c.ns, ⟨mb, c.nsH c.nb, c.bb⟩, mc, c.nsH h1, h2⟩
theorem Cal.tab (c : Cal K mg mb cs s₁ a vs H) {p : Addr × Addr} (hp : p ∈ cs) : TabB (hidT s₁.heap H) mg p.1 p.2 := by
  have hTp := c.hT p hp
  obtain ⟨o, us, file, tf, flags, tg, inF, text, tt, e1, r1, r2, r3, r⟩ := c.C p hp
  obtain ⟨bm, ob, b1, b2, b3, b4, b5, b6⟩ := c.bm
  refine ⟨⟨o, us, file, tf, flags, tg, inF, text, tt, c.hid e1 (fun _ _ z => by rw [r2] at z; cases z) (fun z => ?_), r1, r2, r3, r⟩, ⟨bm, ob, b1, b2, fun q => ?_, fun q => ?_, c.hid b3 (fun _ _ z => by rw [b6] at z; cases z) (fun z => by rw [b6] at z; cases z), b4, b5, b6⟩, fun z => ?_⟩
  · rw [r2] at z
    cases z
    simp at r3
  · obtain ⟨o', es, ep, e, hd, _⟩ := c.ns
    rw [q, e] at b3
    cases b3
    rw [hd] at b6
    cases b6
  · rw [q, hTp] at b3
    cases b3
    cases b6
  · obtain ⟨o', es, ep, e, hd, _⟩ := c.ns
    rw [z, hTp] at e
    cases e
    cases hd
theorem Cal.env {P : Program} {w : World} (c : Cal K mg mb cs s₁ a vs H) (hok : HOk P w H s₁.heap) (hg : s₁.gens = #[]) : Env0 P w K mg (hidT s₁.heap H) callerA [] s₁ H :=
  ⟨rfl, c.mod, fun b o e => of_hidT e, Nat.le_of_eq (hidT_size _ _), trivial, fun b hb => absurd (show b ∈ ([] : List Addr) from hb) (by simp), hok, .of_eq hg⟩
theorem Cal.run {P : Program} {w : World} {k : Nat} {fa : Addr} {fd : FuncData} {x : Str} {sp : Sp} (c : Cal K mg mb cs s₁ a vs H) (hok : HOk P w H s₁.heap) (hg : s₁.gens = #[]) (hTb : ∀ p ∈ cs, H p.2 = some (.tbl #[])) (hs : H a = none ∨ ∃ o xs, H a = some (.frz o (.lst xs)))
    (hr : Room k callerA) (F : FnG P w K mg (hidT s₁.heap H) CX0 k fa fd [x] sp) (hbind : ∀ (s : Shared) (u : Value), BindsTo s fd ⟨[u], []⟩ [(x, u)]) (hsp : sp [.ref a] H (fun v _ => v = .bl true) fun _ _ _ => False) :
    codeAny (model P w) callerA (.call (.ref fa) ⟨[.ref a], []⟩) (fun r s' => r = .ok (.ret (.bool true)) ∧ OldK s₁.heap s'.heap ∧ s'.os = s₁.os ∧ AllBare s'.gens) s₁ := by
  refine codeAny_mono (F.run callerA [] s₁ H ⟨[.ref a], []⟩ [.ref a] [.ref a] _ _ rfl hr (c.env hok hg) (hbind s₁ (.ref a)) (.cons rfl .nil) hsp) fun r s' h => ?_
  match r, h with
  | .error _, h => exact False.elim h
  | .ok .next, h => exact False.elim h
  | .ok .brk, h => exact False.elim h
  | .ok .cont, h => exact False.elim h
  | .ok (.ret u), ⟨v, H', os, bare, un, hok', r', q⟩ =>
    obtain rfl : v = .bl true := q
    obtain rfl : u = Value.bool true := r'
    have tabl : ∀ p ∈ cs, ∃ more : Array Value, s'.heap.get? p.2 = some { cls := .none, data := .fields more } := fun p hp => by
      obtain ⟨more, z⟩ := un.tbls p.2 #[] (hTb p hp)
      exact ⟨_, hok' p.2 _ z⟩
    have same : ∀ b o, (¬ ∃ p ∈ cs, b = p.2) → s₁.heap.get? b = some o → s'.heap.get? b = some o := fun b o nb e => by
      by_cases hb : H b = none
      · exact un.keep b o e hb (fun z => nomatch (show b ∈ ([] : List Addr) from z)) (by simp)
      · rcases c.tr b hb with rfl | z
        · rcases hs with z | ⟨ob, xs, z⟩
          · exact absurd z hb
          · obtain ⟨e1, _⟩ := hok _ _ z
            obtain ⟨e2, _⟩ := hok' _ _ (un.frzs _ ob _ z)
            rw [e] at e1
            cases e1
            exact e2
        · exact absurd z nb
    refine ⟨rfl, ⟨fun b o e => ?_, fun b o e => ?_⟩, os, bare⟩
    · by_cases hb : ∃ p ∈ cs, b = p.2
      · obtain ⟨p, hp, rfl⟩ := hb
        obtain ⟨more, hm⟩ := tabl p hp
        have e' := e
        rw [c.hT p hp] at e'
        cases e'
        exact .inr (.inl ⟨((c.C p hp).tab (c.hT p hp)).isCodeTable, rfl, #[], more, rfl, by rw [Array.empty_append]; exact hm⟩)
      · exact .inl (same b o hb e)
    · by_cases hb : ∃ p ∈ cs, b = p.2
      · obtain ⟨p, hp, rfl⟩ := hb
        obtain ⟨more, hm⟩ := tabl p hp
        exact ⟨_, hm⟩
      · exact ⟨o, same b o hb e⟩
end
section
variable {K : PySem.W.Frag} {mg mb : Str → Option Value} {cs : List (Addr × Addr)} {s₁ : Shared} {a : Addr} {vs : List Value}
/-- the tables alone; the script too -/
def hTabs (cs : List (Addr × Addr)) : Hp := fun b => if b ∈ cs.map (·.2) then some (.tbl #[]) else none
theorem hTabs_at {p : Addr × Addr} (hp : p ∈ cs) : hTabs cs p.2 = some (.tbl #[]) := if_pos (List.mem_map.mpr ⟨p, hp, rfl⟩)
theorem hTabs_of {b : Addr} (h : hTabs cs b ≠ none) : ∃ p ∈ cs, b = p.2 := by
  unfold hTabs at h
  by_cases hb : b ∈ cs.map (·.2)
  · obtain ⟨p, hp, e⟩ := List.mem_map.mp hb
    exact ⟨p, hp, e.symm⟩
  · rw [if_neg hb] at h
    exact absurd rfl h
def LawAtG (l : PySem.W.OpenLaw) (w : World) (K : PySem.W.Frag) (k n : Nat) (x : Str) (mg : Str → Option Value) (fa : Addr) (h : Heap) : Prop :=
  ∃ (fd : FuncData) (cs : List (Addr × Addr)) (sp : Sp), (∀ p ∈ cs, h.get? p.2 = some { cls := .none, data := .fields #[] }) ∧ (∀ p ∈ cs, K.lookup p.2 = none) ∧ (∀ p ∈ cs, PySem.W.CodeHd h p.1 p.2) ∧ (∀ (s : Shared) (u : Value), BindsTo s fd ⟨[u], []⟩ [(x, u)]) ∧
    (∀ (H : Hp) (a : Addr) (ns : List Int), ns.length ≤ n → (∀ p ∈ cs, H p.2 = some (.tbl #[])) → SqL K H a (ns.map V.int) → sp [.ref a] H (fun v _ => v = .bl true) fun _ _ _ => False) ∧
    ∀ base : Heap, K.In base → base.Ns mainGlobals mg → (∀ p ∈ cs, TabB base mg p.1 p.2) → FnG l.prog w K mg base CX0 k fa fd [x] sp
theorem callG {P : Program} {w : World} {k : Nat} {fa : Addr} {fd : FuncData} {x : Str} {sp : Sp} {ns : List Int} (c : ∀ H : Hp, (∀ b, H b ≠ none → b = a ∨ ∃ p ∈ cs, b = p.2) → (H a ≠ none → K.lookup a = none) → Cal K mg mb cs s₁ a vs H) (hg : s₁.gens = #[]) (hi : IntsAre vs ns) (hl : ns.length ≤ sizeLine) (hr : Room k callerA)
    (F : ∀ base : Heap, K.In base → base.Ns mainGlobals mg → (∀ p ∈ cs, TabB base mg p.1 p.2) → FnG P w K mg base CX0 k fa fd [x] sp) (hbind : ∀ (s : Shared) (u : Value), BindsTo s fd ⟨[u], []⟩ [(x, u)])
    (hsp : ∀ H : Hp, (∀ p ∈ cs, H p.2 = some (.tbl #[])) → SqL K H a (ns.map V.int) → sp [.ref a] H (fun v _ => v = .bl true) fun _ _ _ => False) :
    codeAny (model P w) callerA (.call (.ref fa) ⟨[.ref a], []⟩) (fun r s' => r = .ok (.ret (.bool true)) ∧ OldK s₁.heap s'.heap ∧ s'.os = s₁.os ∧ AllBare s'.gens) s₁ := by
  have rv := vals_ints hi
  have lenV := hi.length
  have c0 := c (fun _ => none) (fun b h => absurd rfl h) (fun h => absurd rfl h)
  have aT : ¬ ∃ p ∈ cs, a = p.2 := fun ⟨p, hp, e⟩ => by
    have z := c0.ha
    rw [e, c0.hT p hp] at z
    have z2 := congrArg Obj.data (Option.some.inj z)
    cases z2
  have aN : hTabs cs a = none := by
    cases q : hTabs cs a with
    | none => rfl
    | some u => exact absurd (hTabs_of (by rw [q]; simp)) aT
  have hokT : HOk P w (hTabs cs) s₁.heap := fun b u z => by
    obtain ⟨p, hp, rfl⟩ := hTabs_of (by rw [z]; simp)
    rw [hTabs_at hp] at z
    cases z
    exact c0.hT p hp
  cases hk : K.lookup a with
  | some o =>
    have e := c0.KX a o hk
    rw [c0.ha] at e
    cases e
    have cc := c (hTabs cs) (fun b h => .inr (hTabs_of h)) (fun h => absurd aN h)
    exact cc.run hokT hg (fun p hp => hTabs_at hp) (.inl aN) hr (F _ cc.kin cc.mod.glob (fun p hp => cc.tab hp)) hbind (hsp _ (fun p hp => hTabs_at hp) (.inr ⟨_, vs.toArray, _, hk, rfl, rfl, rfl, by rw [List.size_toArray, lenV]; exact hl, by simpa using rv⟩))
  | none =>
    have at_ : ∀ p ∈ cs, upd (hTabs cs) a (.frz { cls := .type "list", data := .seq vs.toArray } (.lst (ns.map V.int))) p.2 = some (.tbl #[]) := fun p hp => by
      rw [upd_ne (fun z => aT ⟨p, hp, z.symm⟩)]
      exact hTabs_at hp
    have cc := c (upd (hTabs cs) a (.frz { cls := .type "list", data := .seq vs.toArray } (.lst (ns.map V.int)))) (fun b h => by
      by_cases hb : b = a
      · exact .inl hb
      · rw [upd_ne hb] at h
        exact .inr (hTabs_of h)) (fun _ => hk)
    refine cc.run (fun b u z => ?_) hg at_ (.inr ⟨_, _, upd_same⟩) hr (F _ cc.kin cc.mod.glob (fun p hp => cc.tab hp)) hbind (hsp _ at_ (.inl (.inr ⟨_, upd_same⟩)))
    by_cases hb : b = a
    · subst hb
      rw [upd_same] at z
      cases z
      exact ⟨c0.ha, by rw [List.length_map]; exact hl, vs, _, rv, c0.ha⟩
    · rw [upd_ne hb] at z
      obtain ⟨p, hp, rfl⟩ := hTabs_of (by rw [z]; simp)
      rw [hTabs_at hp] at z
      cases z
      exact c0.hT p hp
theorem walkG {l : PySem.W.OpenLaw} {n k : Nat} {q : Program} {loose : List Str} {XP : (Str → Option Value) → Heap → Prop} {YP : World → Heap → Prop} {d : DefRec} {x : Str} (hn : l.most = some n) (hn2 : n ≤ sizeLine) (hdf : d.params.defaults = []) (hr : Room k callerA)
    (F : ∀ (w : World) (mg : Str → Option Value) (fa : Addr) (h : Heap), YP w h → h.Ns mainGlobals mg → mg d.name = some (.ref fa) → ∃ K : PySem.W.Frag, K.In h ∧ LawAtG l w K k n x mg fa h) :
    PySem.W.WalkO q loose XP YP l.row.toRowW d [] (fun f vs => PySem.call f vs) := by
  refine Att.attach_callB hn hdf fun w s₀ s₁ mg mb fa o pm cd doc a vs ns G Y ho hd hcd hmg hobj hints hlen hbits hg => ?_
  obtain ⟨K, KX, fd, cs, sp, hT, nT, C, hb, hsp, hF⟩ := F w mg fa _ Y G.T.g hmg
  exact callG (fun H h1 h2 => ⟨KX, G.T.g, G.T.b, G.T.builtins, G.T.nolimit, hT, nT, C, G.T.bmain, hobj, h1, h2⟩) hg hints (Nat.le_trans hlen hn2) hr hF hb (fun H hH hS => hsp H a ns hlen hH hS)
end
end K81
set_option maxHeartbeats 4000000
namespace K81
open PySem PySem.Spec PyProof.Rows L2 LamX
/-! ### facts of the head, as Bools -/
def oexD (C : Addr) (cd : ClassData) (sl : Array (Option Value)) : Bool := match cd.mro, sl.toList with
  | .ref C' :: bm, [_, _, _, _, some (.builtin n), _] => decide (C' = C) && (PySem.HandSPX.refsVE bm && (decide (n = "ValueError.__new__") && (cd.hasDict && !cd.hasDel)))
  | _, _ => false
def oexB (K : PySem.W.Frag) (C : Addr) : Bool := (match K.lookup C with
  | some ⟨.type t, _, .cls cd, sl⟩ => decide (t = "type") && oexD C cd sl
  | _ => false) && (decide (PySem.W.findIn K (.ref C) "__setattr__" = some (some (.builtin "object.__setattr__"))) && (decide (PySem.W.subIn K (.ref C) (.type "BaseException") = some true) && (decide (PySem.W.typeIn K (.ref C) = some (.type "type")) && PySem.W.keepIn K (.ref C))))
theorem oexB_ok {K : PySem.W.Frag} {C : Addr} (h : oexB K C = true) : OexC K C := by
  obtain ⟨h1, h⟩ := Bool.and_eq_true_iff.mp h
  obtain ⟨h2, h⟩ := Bool.and_eq_true_iff.mp h
  obtain ⟨h3, h⟩ := Bool.and_eq_true_iff.mp h
  obtain ⟨h4, h5⟩ := Bool.and_eq_true_iff.mp h
  refine ⟨?_, of_decide_eq_true h2, of_decide_eq_true h3, of_decide_eq_true h4, h5⟩
  split at h1
  · rename_i t dd cd sl hl
    obtain ⟨ht, hd⟩ := Bool.and_eq_true_iff.mp h1
    have ht := of_decide_eq_true ht
    subst ht
    unfold oexD at hd
    split at hd
    · rename_i C' bm k0 k1 k2 k3 n k5 hm hs
      obtain ⟨g1, hd⟩ := Bool.and_eq_true_iff.mp hd
      obtain ⟨g2, hd⟩ := Bool.and_eq_true_iff.mp hd
      obtain ⟨g3, hd⟩ := Bool.and_eq_true_iff.mp hd
      obtain ⟨g4, g5⟩ := Bool.and_eq_true_iff.mp hd
      have g1 := of_decide_eq_true g1
      have g3 := of_decide_eq_true g3
      subst g1 g3
      obtain ⟨c1, c2, c3, c4, c5, c6, c7, c8, c9, c10, c11⟩ := cd
      have hsl : sl = #[k0, k1, k2, k3, some (.builtin "ValueError.__new__"), k5] := by
        rw [← Array.toArray_toList (xs := sl), hs]
      simp only at hm g4 g5
      subst hm hsl g4
      have g5 : c11 = false := by simpa using g5
      subst g5
      exact ⟨_, _, _, _, _, _, _, _, _, _, _, _, _, _, _, hl, g2⟩
    · cases hd
  · cases h1
def excCB (K : PySem.W.Frag) (D : Addr) : Bool := decide (PySem.W.findIn K (.ref D) "__getattribute__" = some (some (.builtin "BaseException.__getattribute__"))) && (decide (PySem.W.findIn K (.ref D) "__getattr__" = some none) && (decide (PySem.W.subIn K (.ref D) (.type "BaseException") = some true) && (PySem.W.hasDictIn K D &&
  (decide (PySem.W.findIn K (.ref D) "__class__" = some (some (.builtin "object.__class__"))) && (decide (PySem.W.specialIn K (.builtin "object.__class__") "__get__" = some (some (.builtin "getset_descriptor.__get__"))) && (decide (PySem.W.takesIn K (.builtin "object.__class__") = some true) && decide (PySem.W.mroIn K D (.type "object") = some true)))))))
theorem excCB_ok {K : PySem.W.Frag} {D : Addr} (h : excCB K D = true) : ExcC K D := by
  obtain ⟨h1, h⟩ := Bool.and_eq_true_iff.mp h
  obtain ⟨h2, h⟩ := Bool.and_eq_true_iff.mp h
  obtain ⟨h3, h⟩ := Bool.and_eq_true_iff.mp h
  obtain ⟨h4, h⟩ := Bool.and_eq_true_iff.mp h
  obtain ⟨h5, h⟩ := Bool.and_eq_true_iff.mp h
  obtain ⟨h6, h⟩ := Bool.and_eq_true_iff.mp h
  obtain ⟨h7, h8⟩ := Bool.and_eq_true_iff.mp h
  exact ⟨of_decide_eq_true h1, of_decide_eq_true h2, of_decide_eq_true h3, h4, of_decide_eq_true h5, of_decide_eq_true h6, of_decide_eq_true h7, of_decide_eq_true h8⟩
/-! ### an __init__ over the cell of its class -/
abbrev KsW : Type := Option (Str × Str × Arguments × FuncBody × Scope × Addr × Addr)
def ksW (K : PySem.W.Frag) (f : Addr) : KsW := match K.lookup f with
  | some ⟨_, _, .func fd, _⟩ => some (fd.name, fd.qualname, fd.params, fd.body, fd.scope, fd.globals, fd.builtins)
  | _ => none
def isNo : Value → Bool
  | .none => true
  | _ => false
theorem isNo_ok {v : Value} (h : isNo v = true) : v = .none := by
  cases v <;> first | rfl | cases h
def cellB (K : PySem.W.Frag) (cl : List (Str × Addr)) (C : Addr) : Bool := match cl with
  | [(y, cc)] => decide (y = ("__class__" : Str)) && (match K.lookup cc with
    | some ⟨_, _, .cell (some (.ref D)), _⟩ => decide (D = C)
    | _ => false)
  | _ => false
def fileB (K : PySem.W.Frag) (cd : Value) (file : Str) : Bool := match cd with
  | .ref c => (match K.lookup c with
    | some ⟨_, _, .fields vs, _⟩ => (match (vs : Array Value)[2]? with
      | some (Value.str z _) => decide (z = file)
      | _ => false)
    | _ => false)
  | _ => false
def ksB (K : PySem.W.Frag) (f C : Addr) (q file : Str) : Bool := match K.lookup f with
  | some ⟨_, _, .func fd, _⟩ => cellB K fd.closure C && (isNo fd.defaults && (isNo fd.kwdefaults && (fd.annotations.isNone && (PySem.W.codeIn K fd.code q && fileB K fd.code file))))
  | _ => false
theorem fileB_ok {K : PySem.W.Frag} {cd : Value} {file : Str} (h : fileB K cd file = true) : ∃ (cda : Addr) (ccl : Value) (cdd : Option Addr) (vs : Array Value) (ccs : Array (Option Value)) (tf : Tok), cd = .ref cda ∧ K.lookup cda = some ⟨ccl, cdd, .fields vs, ccs⟩ ∧ vs[2]? = some (.str file tf) := by
  unfold fileB at h
  split at h
  · split at h
    · rename_i hl
      split at h
      · rename_i hv
        have := of_decide_eq_true h
        subst this
        exact ⟨_, _, _, _, _, _, rfl, hl, hv⟩
      · cases h
    · cases h
  · cases h
theorem cellB_ok {K : PySem.W.Frag} {cl : List (Str × Addr)} {C : Addr} (h : cellB K cl C = true) : ∃ (cc : Addr) (v : Value) (d : Option Addr) (sl : Array (Option Value)), cl = [(("__class__" : Str), cc)] ∧ K.lookup cc = some ⟨v, d, .cell (some (.ref C)), sl⟩ := by
  unfold cellB at h
  split at h
  · obtain ⟨h1, h2⟩ := Bool.and_eq_true_iff.mp h
    have e1 := of_decide_eq_true h1
    subst e1
    split at h2
    · rename_i hl
      have e2 := of_decide_eq_true h2
      subst e2
      exact ⟨_, _, _, _, rfl, hl⟩
    · cases h2
  · cases h
theorem ksB_ok {K : PySem.W.Frag} {f C : Addr} {n q file : Str} {params : Arguments} {body : List Stmt} {scope : Scope} (e : ksW K f = some (n, q, params, .stmts body, scope, mainGlobals, builtinsNs)) (h : ksB K f C q file = true) :
    ∃ (oc : Value) (od : Option Addr) (osl : Array (Option Value)) (doc pm ct : Value) (cda cc : Addr) (ccl : Value) (cdd : Option Addr) (vs : Array Value) (ccs : Array (Option Value)) (tf : Tok) (cl : Value) (cld : Option Addr) (csl : Array (Option Value)),
      K.lookup f = some ⟨oc, od, .func (PySem.W.ksFn n q params body scope .none .none doc pm none (.ref cda) ct cc), osl⟩ ∧ PySem.W.codeIn K (.ref cda) q = true ∧ K.lookup cda = some ⟨ccl, cdd, .fields vs, ccs⟩ ∧ vs[2]? = some (.str file tf) ∧ K.lookup cc = some ⟨cl, cld, .cell (some (.ref C)), csl⟩ := by
  unfold ksW at e
  unfold ksB at h
  cases hk : K.lookup f with
  | none => rw [hk] at h; cases h
  | some o =>
    obtain ⟨oc, od, dt, osl⟩ := o
    rw [hk] at h e
    cases dt with
    | func fd =>
      obtain ⟨n1, n2, n3, n4, n5, n6, n7, n8, n9, n10, n11, n12, n13, n14, n15⟩ := fd
      simp only [Option.some.injEq, Prod.mk.injEq] at e
      obtain ⟨e1, e2, e3, e4, e5, e6, e7⟩ := e
      subst e1 e2 e3 e4 e5 e6 e7
      obtain ⟨h1, h⟩ := Bool.and_eq_true_iff.mp (show (cellB K n7 C && (isNo n8 && (isNo n9 && (n12.isNone && (PySem.W.codeIn K n13 n2 && fileB K n13 file))))) = true from h)
      obtain ⟨h2, h⟩ := Bool.and_eq_true_iff.mp h
      obtain ⟨h3, h⟩ := Bool.and_eq_true_iff.mp h
      obtain ⟨h4, h⟩ := Bool.and_eq_true_iff.mp h
      obtain ⟨h5, h6⟩ := Bool.and_eq_true_iff.mp h
      obtain ⟨cc, cl, cld, csl, rfl, g1⟩ := cellB_ok h1
      obtain ⟨cda, ccl, cdd, vs, ccs, tf, rfl, g2, g3⟩ := fileB_ok h6
      have h2 := isNo_ok h2
      have h3 := isNo_ok h3
      have h4 := Option.isNone_iff_eq_none.mp h4
      subst h2 h3 h4
      exact ⟨oc, od, osl, n10, n11, n14, cda, cc, ccl, cdd, vs, ccs, tf, cl, cld, csl, rfl, h5, g2, g3, g1⟩
    | _ => cases h
end K81
set_option maxHeartbeats 0
namespace K81
open PySem PySem.Spec PyProof.Rows L2 He
abbrev R : PySem.W.OpenRow := PySem.W.OpenLaw.row PySem.Challenge.rw_firstwrong_k81_whole_counting_weavings
def gd (x : Str) (i : Nat) : He.DefD := ⟨(x, none), x, x, defArgs (top i), defBody (top i), defScope (top i), [], []⟩
def fn : List He.DefD := [gd "is_number" 7, gd "is_between" 8, gd "is_list" 9, gd "is_tuple" 10, gd "need_between" 11, gd "is_weaving" 14, gd "step_names" 15, gd "is_count_row" 18, gd "is_step_name" 19, gd "is_ledger_entry" 20, gd "waits_of" 21, gd "is_let" 22, gd "let_threads" 23, gd "woven" 24, gd "is_ledger" 25, gd "need_ledger" 26, gd "is_kept_by" 27, gd "need_few_stands" 30, gd "stands_of" 31, gd "stepped_stand" 32, gd "need_countable" 34, gd "need_keeping" 35, gd "how_many" 36, gd "least_weaving" 37, gd "next_weaving" 38, gd "weaving_at" 39, gd "place_of" 40, gd "_law_begun" 42, gd "_law_mixed" 43, gd "_law_take" 44, gd "_law_pick" 45, gd "_law_shuffled" 46, gd "_law_caught" 47, gd "_law_names" 48, gd "_law_counts" 49, gd "_law_let" 50, gd "_law_all_woven" 51, gd "_law_weaving" 52, gd "_law_ledger" 53, gd "_law_listed_right" 54, gd "_law_mixed_right" 55, gd "_law_refused" 56, gd "law" 57, ⟨("Ways", some "nexts"), "nexts", "Ways.nexts", defArgs nextsSt, defBody nextsSt, defScope nextsSt, [], []⟩, ⟨("Ways", some "__init__"), "__init__", "Ways.__init__", defArgs initSt, defBody initSt, defScope initSt, [], []⟩]
def fa : List He.Fa := [.glo "is_number", .glo "is_between", .glo "is_list", .glo "is_tuple", .glo "need_between", .glo "is_weaving", .glo "step_names", .glo "is_count_row", .glo "is_step_name", .glo "is_ledger_entry", .glo "waits_of", .glo "is_let", .glo "let_threads", .glo "woven", .glo "is_ledger", .glo "need_ledger", .glo "is_kept_by", .glo "need_few_stands", .glo "stands_of", .glo "stepped_stand", .glo "need_countable", .glo "need_keeping", .glo "how_many", .glo "least_weaving", .glo "next_weaving", .glo "weaving_at", .glo "place_of", .glo "_law_begun", .glo "_law_mixed", .glo "_law_take", .glo "_law_pick", .glo "_law_shuffled", .glo "_law_caught", .glo "_law_names", .glo "_law_counts", .glo "_law_let", .glo "_law_all_woven", .glo "_law_weaving", .glo "_law_ledger", .glo "_law_listed_right", .glo "_law_mixed_right", .glo "_law_refused", .glo "law", .free "len", .free "sum", .free "all", .free "abs", .free "repr", .free "isinstance", .free "int", .free "bool", .free "tuple", .free "list", .free "sorted", .free "dict", .free "range", .free "enumerate", .free "zip", .free "super", .int "MOST_THREADS" 4, .int "MOST_LEDGER_STEPS" 2000, .int "MOST_STANDS" 20000, .glo "WrongError", .glo "BadNumber", .glo "TooMany", .glo "BadWeaving", .glo "BadLedger", .glo "Ways", .exc "BadWeaving", .exc "BadLedger", .exm "BadNumber" "WrongError" true, .exm "TooMany" "WrongError" true, .exm "BadWeaving" "WrongError" true, .exm "BadLedger" "WrongError" true, .noat "BadNumber" "part", .noat "TooMany" "most", .cls "Ways", .noat "Ways" "counts", .noat "Ways" "waits", .noat "Ways" "ways", .meth "Ways" "nexts", .mkr "Ways"]
def ts : List He.Tab := []
def tf : List He.Defn := [("_law_refused", none), ("stands_of", none)]
def mf : Str := R.prog.main.file
def exE (K : PySem.W.Frag) (x : Str) : Bool := excCB K (ga K x)
def exI (K : PySem.W.Frag) (x q : Str) : Bool := oexB K (ga K x) && (xfB K (ga K x) && (ksB K (fAd K (x, some "__init__")) (ga K x) q mf && (decide (PySem.W.findIn K (.ref (ga K x)) "__init__" = some (some (.ref (fAd K (x, some "__init__"))))) && (decide (PySem.W.typeIn K (.ref (fAd K (x, some "__init__"))) = some (.type "function")) &&
  (decide (PySem.W.ks_superIn K (ga K x) (ga K x) "__init__" = some (some (.builtin "ValueError.__init__"))) && (decide (PySem.W.subIn K (.ref (ga K x)) (.type "ValueError") = some true) && decide (PySem.W.mroIn K (ga K x) (.ref (ga K x)) = some true)))))))
def ex : PySem.W.Frag → Bool := fun K => exE K "BadNumber" && (exE K "TooMany" && (exE K "BadWeaving" && (exE K "BadLedger" && (exI K "BadNumber" "BadNumber.__init__" && (exI K "TooMany" "TooMany.__init__" && (decide (PySem.W.nsIn K PySem.cStatics "thirdparty.any" = some none) &&
  !decide (tabOf K (codeOf K ("_law_refused", none)) = tabOf K (codeOf K ("stands_of", none)))))))))
/-- what the walks see: as hookX, and the object of the statics; the two __init__ beside -/
def KM (g : Addr → Option Obj) : PySem.W.Frag := frT g (PySem.cStatics :: asD g 5)
def iB : Str × Option Str := ("BadNumber", some "__init__")
def iT : Str × Option Str := ("TooMany", some "__init__")
def cIn (i : Nat) : Stmt := match top i with
  | .ClassDef (body := b) .. => b.getD 0 (.Pass ⟨0, 0, 0, 0⟩)
  | s => s
def kVal (i : Nat) (q : Str) : KsW := some ("__init__", q, defArgs (cIn i), .stmts (defBody (cIn i)), defScope (cIn i), mainGlobals, builtinsNs)
abbrev AlM : Type := He.AlX × KsW × KsW
def obM (g : Addr → Option Obj) : AlM := ((obsT fa fn ts (KM g), ex (KM g) && tabsB g tf (KM g)), ksW (KM g) (fAd (KM g) iB), ksW (KM g) (fAd (KM g) iT))
def vaM (w : World) : AlM := (valX fn ts w, kVal 2 "BadNumber.__init__", kVal 3 "TooMany.__init__")
structure SaysM (w : World) (h : Heap) (K : PySem.W.Frag) : Prop where
  x : SaysX fa fn ts tf ex w h K
  kB : ksW K (fAd K iB) = kVal 2 "BadNumber.__init__"
  kT : ksW K (fAd K iT) = kVal 3 "TooMany.__init__"
theorem saysM_of {w : World} {h : Heap} (e : obM h.get? = vaM w) : SaysM w h (KM h.get?) := by
  have e0 : (obsT fa fn ts (KM h.get?), ex (KM h.get?) && tabsB h.get? tf (KM h.get?)) = valX fn ts w := congrArg (fun z : AlM => z.1) e
  have e1 : obsT fa fn ts (KM h.get?) = valT fn ts w := congrArg (fun z : He.AlX => z.1) e0
  obtain ⟨h1, h2⟩ := ba (show (ex (KM h.get?) && tabsB h.get? tf (KM h.get?)) = true from congrArg (fun z : He.AlX => z.2) e0)
  have key : ∀ p ∈ tf, PySem.W.codeHdIn (KM h.get?) (cT (KM h.get?) p).1 (cT (KM h.get?) p).2 = true ∧ ∃ o, h.get? (cT (KM h.get?) p).2 = some o ∧ emptyTab o = true := fun p hp => by
    obtain ⟨h3, h4⟩ := ba (List.all_eq_true.mp h2 p hp)
    refine ⟨h3, ?_⟩
    split at h4
    · rename_i o q
      exact ⟨o, q, h4⟩
    · cases h4
  refine ⟨⟨e1, h1, fun p hp => (key p hp).1, fun p hp => ?_, fun p hp => ?_⟩, congrArg (fun z : AlM => z.2.1) e, congrArg (fun z : AlM => z.2.2) e⟩
  · obtain ⟨_, o, q, z⟩ := key p hp
    exact frT_none q z
  · obtain ⟨_, o, q, z⟩ := key p hp
    rw [q, emptyTab_eq z]
def hk : PySem.W.Hook where
  α := AlM
  obs := fun s => obM s.heap.get?
  val := vaM
  says := fun w h => ∃ K : PySem.W.Frag, K.In h ∧ SaysM w h K
  of := fun _ _ e => ⟨_, frT_in, saysM_of e⟩
  keeps := fun _ _ _ ⟨K, hK, c⟩ k => ⟨K, PySem.W.Frag.In.keeps hK k, ⟨⟨c.x.t, c.x.more, c.x.hd, c.x.out, fun p hp => k _ _ (c.x.empty p hp)⟩, c.kB, c.kT⟩⟩
def ob (s : PySem.W.SharedT) : AlM := obM (HandSHeadRun.getT s)
theorem ob_eq (s : PySem.W.SharedT) : ob s = hk.obs s.abs := by
  have e : HandSHeadRun.getT s = s.abs.heap.get? := funext (HandSHeadRun.getT_eq s)
  unfold ob
  rw [e]
  rfl
def loose : List Str := (["WrongError", "BadNumber", "TooMany", "BadWeaving", "BadLedger", "is_number", "is_between", "is_list", "is_tuple", "need_between", "MOST_THREADS", "is_weaving", "step_names", "MOST_LEDGER_STEPS", "is_count_row", "is_step_name", "is_ledger_entry", "waits_of", "is_let", "let_threads", "woven", "is_ledger", "need_ledger", "is_kept_by", "MOST_STANDS", "need_few_stands", "stands_of", "stepped_stand", "Ways", "need_countable"] : List Str) ++
  (["need_keeping", "how_many", "least_weaving", "next_weaving", "weaving_at", "place_of", "_law_begun", "_law_mixed", "_law_take", "_law_pick", "_law_shuffled", "_law_caught", "_law_names", "_law_counts", "_law_let", "_law_all_woven", "_law_weaving", "_law_ledger", "_law_listed_right", "_law_mixed_right", "_law_refused"] : List Str)
theorem run (w : World) : HandSHeadRun.RunEq R (PySem.W.view R.prog [57]) hk ob 20000 loose w := by
  intro os
  kernel_rfl
end K81
set_option maxHeartbeats 4000000
namespace K81
open PySem PySem.Spec PyProof.Rows L2 LamX K81M StX RZ NdefX He
/-! ### from what the head tells to each def's promise -/
section
variable {P : Program} {w : World} {h base : Heap} {K : PySem.W.Frag} {mg : Str → Option Value}
theorem fun_x {x : Str} {j : Nat} (d : He.SaysD fa fn K) (i : Nat) (e : fn[i]? = some (gd x j)) : ∃ fd, Fun K x x (top j) (ga K x) fd := by
  obtain ⟨fd, F⟩ := d.def_ i e
  exact ⟨fd, He5.fun_of F⟩
theorem funC_of {x : Str} {j : Nat} {fd : FuncData} (F : Fun K x x (top j) (ga K x) fd) : FunC K x x (top j) (ga K x) (He.codeOf K (x, none)) fd := by
  obtain ⟨oc, od, kV, doc, pm, an, cdv, ct, osl, rfl, lk, hcd⟩ := F.ex
  obtain ⟨c, rfl⟩ := He.codeIn_ref hcd
  have e : He.codeOf K (x, none) = c := He.codeOf_eq (p := (x, none)) lk rfl
  rw [e]
  exact ⟨⟨oc, od, kV, doc, pm, an, ct, osl, rfl, lk, hcd⟩⟩
theorem rev2 {x qual p q : Str} {st : Stmt} {f : Addr} {fd : FuncData} (F : Fun K x qual st f fd)
    (hb : ∀ (kV doc pm : Value) (an : Option Addr) (cdv ct a b : Value), bindArgs (PySem.W.fnOf x qual (defArgs st) (defBody st) (defScope st) .none kV doc pm an cdv ct) ⟨[], [(q, a), (p, b)]⟩ = pure [(p, b), (q, a)]) (s : Shared) (ws : List Value) (hl : ws.length = 2) :
    BindsTo s fd ⟨[], [q, p].zip ws⟩ ([p, q].zip ws.reverse) := by
  obtain ⟨oc, od, kV, doc, pm, an, cdv, ct, osl, rfl, lk, hcd⟩ := F.ex
  match ws, hl with
  | [a, b], _ => exact .of_eq (hb kV doc pm an cdv ct a b)
theorem rev1 {x qual p : Str} {st : Stmt} {f : Addr} {fd : FuncData} (F : Fun K x qual st f fd)
    (hb : ∀ (kV doc pm : Value) (an : Option Addr) (cdv ct a : Value), bindArgs (PySem.W.fnOf x qual (defArgs st) (defBody st) (defScope st) .none kV doc pm an cdv ct) ⟨[], [(p, a)]⟩ = pure [(p, a)]) (s : Shared) (ws : List Value) (hl : ws.length = 1) :
    BindsTo s fd ⟨[], [p].zip ws⟩ ([p].zip ws.reverse) := by
  obtain ⟨oc, od, kV, doc, pm, an, cdv, ct, osl, rfl, lk, hcd⟩ := F.ex
  match ws, hl with
  | [a], _ => exact .of_eq (hb kV doc pm an cdv ct a)
theorem txt_of (X : K.In h) (G : h.Ns mainGlobals mg) (d : He.SaysD fa fn K) : Txt mg where
  f_len := He.free_ok X G (d.fact 43 (f := .free "len") rfl)
  f_sum := He.free_ok X G (d.fact 44 (f := .free "sum") rfl)
  f_all := He.free_ok X G (d.fact 45 (f := .free "all") rfl)
  f_abs := He.free_ok X G (d.fact 46 (f := .free "abs") rfl)
  f_repr := He.free_ok X G (d.fact 47 (f := .free "repr") rfl)
  f_isinstance := He.free_ok X G (d.fact 48 (f := .free "isinstance") rfl)
  f_int := He.free_ok X G (d.fact 49 (f := .free "int") rfl)
  f_bool := He.free_ok X G (d.fact 50 (f := .free "bool") rfl)
  f_tuple := He.free_ok X G (d.fact 51 (f := .free "tuple") rfl)
  f_list := He.free_ok X G (d.fact 52 (f := .free "list") rfl)
  f_sorted := He.free_ok X G (d.fact 53 (f := .free "sorted") rfl)
  f_dict := He.free_ok X G (d.fact 54 (f := .free "dict") rfl)
  f_range := He.free_ok X G (d.fact 55 (f := .free "range") rfl)
  f_enumerate := He.free_ok X G (d.fact 56 (f := .free "enumerate") rfl)
  f_zip := He.free_ok X G (d.fact 57 (f := .free "zip") rfl)
  f_super := He.free_ok X G (d.fact 58 (f := .free "super") rfl)
  c_MOST_THREADS := He.int_ok X G (d.fact 59 (f := .int "MOST_THREADS" 4) rfl)
  c_MOST_LEDGER_STEPS := He.int_ok X G (d.fact 60 (f := .int "MOST_LEDGER_STEPS" 2000) rfl)
  c_MOST_STANDS := He.int_ok X G (d.fact 61 (f := .int "MOST_STANDS" 20000) rfl)
/-! what is said of the exceptions -/
structure ExAll (K : PySem.W.Frag) : Prop where
  eN : ExcC K (ga K "BadNumber")
  eM : ExcC K (ga K "TooMany")
  eW : ExcC K (ga K "BadWeaving")
  eL : ExcC K (ga K "BadLedger")
  oN : exI K "BadNumber" "BadNumber.__init__" = true
  oM : exI K "TooMany" "TooMany.__init__" = true
  op : PySem.W.nsIn K PySem.cStatics "thirdparty.any" = some none
  ne : tabOf K (codeOf K ("_law_refused", none)) ≠ tabOf K (codeOf K ("stands_of", none))
theorem exAll_of (e : ex K = true) : ExAll K := by
  unfold ex at e
  obtain ⟨h1, e⟩ := He.ba e
  obtain ⟨h2, e⟩ := He.ba e
  obtain ⟨h3, e⟩ := He.ba e
  obtain ⟨h4, e⟩ := He.ba e
  obtain ⟨h5, e⟩ := He.ba e
  obtain ⟨h6, e⟩ := He.ba e
  obtain ⟨h7, h8⟩ := He.ba e
  refine ⟨excCB_ok h1, excCB_ok h2, excCB_ok h3, excCB_ok h4, h5, h6, of_decide_eq_true h7, fun z => ?_⟩
  rw [decide_eq_true z] at h8
  cases h8
structure ExIs (K : PySem.W.Frag) (x q : Str) : Prop where
  oex : OexC K (ga K x)
  xf : XfC K (ga K x)
  ks : ksB K (fAd K (x, some "__init__")) (ga K x) q mf = true
  find : PySem.W.findIn K (.ref (ga K x)) "__init__" = some (some (.ref (fAd K (x, some "__init__"))))
  ty : PySem.W.typeIn K (.ref (fAd K (x, some "__init__"))) = some (.type "function")
  sup : PySem.W.ks_superIn K (ga K x) (ga K x) "__init__" = some (some (.builtin "ValueError.__init__"))
  sub : PySem.W.subIn K (.ref (ga K x)) (.type "ValueError") = some true
  self : PySem.W.mroIn K (ga K x) (.ref (ga K x)) = some true
theorem exIs_of {x q : Str} (e : exI K x q = true) : ExIs K x q := by
  unfold exI at e
  obtain ⟨h1, e⟩ := He.ba e
  obtain ⟨h2, e⟩ := He.ba e
  obtain ⟨h3, e⟩ := He.ba e
  obtain ⟨h4, e⟩ := He.ba e
  obtain ⟨h5, e⟩ := He.ba e
  obtain ⟨h6, e⟩ := He.ba e
  obtain ⟨h7, h8⟩ := He.ba e
  exact ⟨oexB_ok h1, xfB_ok h2, h3, of_decide_eq_true h4, of_decide_eq_true h5, of_decide_eq_true h6, of_decide_eq_true h7, of_decide_eq_true h8⟩
theorem ini_BadNumber (I : ExIs K "BadNumber" "BadNumber.__init__") (op : PySem.W.nsIn K PySem.cStatics "thirdparty.any" = some none) (e : ksW K (fAd K iB) = kVal 2 "BadNumber.__init__") (T : Txt mg) (hno : PySem.W.findIn K (.ref (ga K "BadNumber")) "part" = some none) (hfile : ((P.main.file : Str) == mf) = true) (htop : (P.main.scope.names.lookup ("super" : Str)).isSome = false) :
    ∃ (fI : Addr) (fd : FuncData) (ps : List Str), PySem.W.findIn K (.ref (ga K "BadNumber")) "__init__" = some (some (.ref fI)) ∧ PySem.W.typeIn K (.ref fI) = some (.type "function") ∧ FnOk P w K mg base CX0 1 fI fd ps (spXi (ga K "BadNumber") "part") ∧ Binds K fd ps [] := by
  obtain ⟨oc, od, osl, doc, pm, ct, cda, cc, ccl, cdd, vs, ccs, tf, cl, cld, csl, lk, hcd, hcode, hvs, hcell⟩ := ksB_ok (n := "__init__") (q := "BadNumber.__init__") (params := defArgs (cIn 2)) (body := defBody (cIn 2)) (scope := defScope (cIn 2)) e I.ks
  refine ⟨fAd K ("BadNumber", some "__init__"), _, [("self" : Str), "part"], I.find, I.ty, exinit_ok (k := 0) (N := []) (pl := plainOf (.Call (.Name "super" ⟨7, 8, 7, 13⟩) [] [] ⟨7, 8, 7, 15⟩)) lk hcd (nscope_by (by decide +kernel)) rfl rfl rfl hcode hvs hfile hcell I.oex I.sup I.sub I.self op T.f_super (by decide +kernel) htop hno ?_ ?_ ?_ ?_ (by decide) (by decide), ?_⟩
  · exact fun L => rfl
  · exact fun L => rfl
  · exact fun L => rfl
  · exact fun L => rfl
  · exact .all fun us hl => match us, hl with | [_, _], _ => rfl
theorem ini_TooMany (I : ExIs K "TooMany" "TooMany.__init__") (op : PySem.W.nsIn K PySem.cStatics "thirdparty.any" = some none) (e : ksW K (fAd K iT) = kVal 3 "TooMany.__init__") (T : Txt mg) (hno : PySem.W.findIn K (.ref (ga K "TooMany")) "most" = some none) (hfile : ((P.main.file : Str) == mf) = true) (htop : (P.main.scope.names.lookup ("super" : Str)).isSome = false) :
    ∃ (fI : Addr) (fd : FuncData) (ps : List Str), PySem.W.findIn K (.ref (ga K "TooMany")) "__init__" = some (some (.ref fI)) ∧ PySem.W.typeIn K (.ref fI) = some (.type "function") ∧ FnOk P w K mg base CX0 1 fI fd ps (spXi (ga K "TooMany") "most") ∧ Binds K fd ps [] := by
  obtain ⟨oc, od, osl, doc, pm, ct, cda, cc, ccl, cdd, vs, ccs, tf, cl, cld, csl, lk, hcd, hcode, hvs, hcell⟩ := ksB_ok (n := "__init__") (q := "TooMany.__init__") (params := defArgs (cIn 3)) (body := defBody (cIn 3)) (scope := defScope (cIn 3)) e I.ks
  refine ⟨fAd K ("TooMany", some "__init__"), _, [("self" : Str), "most"], I.find, I.ty, exinit_ok (k := 0) (N := []) (pl := plainOf (.Call (.Name "super" ⟨12, 8, 12, 13⟩) [] [] ⟨12, 8, 12, 15⟩)) lk hcd (nscope_by (by decide +kernel)) rfl rfl rfl hcode hvs hfile hcell I.oex I.sup I.sub I.self op T.f_super (by decide +kernel) htop hno ?_ ?_ ?_ ?_ (by decide) (by decide), ?_⟩
  · exact fun L => rfl
  · exact fun L => rfl
  · exact fun L => rfl
  · exact fun L => rfl
  · exact .all fun us hl => match us, hl with | [_, _], _ => rfl
end
section
variable {P : Program} {w : World} {h base : Heap} {K : PySem.W.Frag} {mg : Str → Option Value}
abbrev qS : Str := (Str.ofString "stands_of.<locals>.<lambda>")
abbrev qR : Str := (Str.ofString "_law_refused.<locals>.<lambda>")
abbrev pS (K : PySem.W.Frag) : Addr := (cT K ("stands_of", none)).2
abbrev pR (K : PySem.W.Frag) : Addr := (cT K ("_law_refused", none)).2
abbrev TbK (K : PySem.W.Frag) : List (Addr × Str) := [(pS K, qS), (pR K, qR)]
theorem law_all (X : K.In h) (G : h.Ns mainGlobals mg) (c : SaysM w h K) (hfile : ((P.main.file : Str) == mf) = true) (htop : (P.main.scope.names.lookup ("super" : Str)).isSome = false) :
    ∃ fd : FuncData, (∀ (s : Shared) (u : Value), BindsTo s fd ⟨[u], []⟩ [("_law_script", u)]) ∧ ∀ base : Heap, (∀ p ∈ tf.map (cT K), TabB base mg p.1 p.2) → FnG P w K mg base CX0 12 (ga K "law") fd ["_law_script"] (spLaw K (TbK K)) := by
  have d : He.SaysD fa fn K := c.x.t.d
  have T : Txt mg := txt_of X G d
  have A : ExAll K := exAll_of c.x.more
  have IN := exIs_of A.oN
  have IM := exIs_of A.oM
  obtain ⟨fd_is_number, F_is_number⟩ := fun_x (x := "is_number") (j := 7) d 0 rfl
  obtain ⟨fd_is_between, F_is_between⟩ := fun_x (x := "is_between") (j := 8) d 1 rfl
  obtain ⟨fd_is_list, F_is_list⟩ := fun_x (x := "is_list") (j := 9) d 2 rfl
  obtain ⟨fd_is_tuple, F_is_tuple⟩ := fun_x (x := "is_tuple") (j := 10) d 3 rfl
  obtain ⟨fd_need_between, F_need_between⟩ := fun_x (x := "need_between") (j := 11) d 4 rfl
  obtain ⟨fd_is_weaving, F_is_weaving⟩ := fun_x (x := "is_weaving") (j := 14) d 5 rfl
  obtain ⟨fd_step_names, F_step_names⟩ := fun_x (x := "step_names") (j := 15) d 6 rfl
  obtain ⟨fd_is_count_row, F_is_count_row⟩ := fun_x (x := "is_count_row") (j := 18) d 7 rfl
  obtain ⟨fd_is_step_name, F_is_step_name⟩ := fun_x (x := "is_step_name") (j := 19) d 8 rfl
  obtain ⟨fd_is_ledger_entry, F_is_ledger_entry⟩ := fun_x (x := "is_ledger_entry") (j := 20) d 9 rfl
  obtain ⟨fd_waits_of, F_waits_of⟩ := fun_x (x := "waits_of") (j := 21) d 10 rfl
  obtain ⟨fd_is_let, F_is_let⟩ := fun_x (x := "is_let") (j := 22) d 11 rfl
  obtain ⟨fd_let_threads, F_let_threads⟩ := fun_x (x := "let_threads") (j := 23) d 12 rfl
  obtain ⟨fd_woven, F_woven⟩ := fun_x (x := "woven") (j := 24) d 13 rfl
  obtain ⟨fd_is_ledger, F_is_ledger⟩ := fun_x (x := "is_ledger") (j := 25) d 14 rfl
  obtain ⟨fd_need_ledger, F_need_ledger⟩ := fun_x (x := "need_ledger") (j := 26) d 15 rfl
  obtain ⟨fd_is_kept_by, F_is_kept_by⟩ := fun_x (x := "is_kept_by") (j := 27) d 16 rfl
  obtain ⟨fd_need_few_stands, F_need_few_stands⟩ := fun_x (x := "need_few_stands") (j := 30) d 17 rfl
  obtain ⟨fd_stands_of, F_stands_of⟩ := fun_x (x := "stands_of") (j := 31) d 18 rfl
  obtain ⟨fd_stepped_stand, F_stepped_stand⟩ := fun_x (x := "stepped_stand") (j := 32) d 19 rfl
  obtain ⟨fd_need_countable, F_need_countable⟩ := fun_x (x := "need_countable") (j := 34) d 20 rfl
  obtain ⟨fd_need_keeping, F_need_keeping⟩ := fun_x (x := "need_keeping") (j := 35) d 21 rfl
  obtain ⟨fd_how_many, F_how_many⟩ := fun_x (x := "how_many") (j := 36) d 22 rfl
  obtain ⟨fd_least_weaving, F_least_weaving⟩ := fun_x (x := "least_weaving") (j := 37) d 23 rfl
  obtain ⟨fd_next_weaving, F_next_weaving⟩ := fun_x (x := "next_weaving") (j := 38) d 24 rfl
  obtain ⟨fd_weaving_at, F_weaving_at⟩ := fun_x (x := "weaving_at") (j := 39) d 25 rfl
  obtain ⟨fd_place_of, F_place_of⟩ := fun_x (x := "place_of") (j := 40) d 26 rfl
  obtain ⟨fd__law_begun, F__law_begun⟩ := fun_x (x := "_law_begun") (j := 42) d 27 rfl
  obtain ⟨fd__law_mixed, F__law_mixed⟩ := fun_x (x := "_law_mixed") (j := 43) d 28 rfl
  obtain ⟨fd__law_take, F__law_take⟩ := fun_x (x := "_law_take") (j := 44) d 29 rfl
  obtain ⟨fd__law_pick, F__law_pick⟩ := fun_x (x := "_law_pick") (j := 45) d 30 rfl
  obtain ⟨fd__law_shuffled, F__law_shuffled⟩ := fun_x (x := "_law_shuffled") (j := 46) d 31 rfl
  obtain ⟨fd__law_caught, F__law_caught⟩ := fun_x (x := "_law_caught") (j := 47) d 32 rfl
  obtain ⟨fd__law_names, F__law_names⟩ := fun_x (x := "_law_names") (j := 48) d 33 rfl
  obtain ⟨fd__law_counts, F__law_counts⟩ := fun_x (x := "_law_counts") (j := 49) d 34 rfl
  obtain ⟨fd__law_let, F__law_let⟩ := fun_x (x := "_law_let") (j := 50) d 35 rfl
  obtain ⟨fd__law_all_woven, F__law_all_woven⟩ := fun_x (x := "_law_all_woven") (j := 51) d 36 rfl
  obtain ⟨fd__law_weaving, F__law_weaving⟩ := fun_x (x := "_law_weaving") (j := 52) d 37 rfl
  obtain ⟨fd__law_ledger, F__law_ledger⟩ := fun_x (x := "_law_ledger") (j := 53) d 38 rfl
  obtain ⟨fd__law_listed_right, F__law_listed_right⟩ := fun_x (x := "_law_listed_right") (j := 54) d 39 rfl
  obtain ⟨fd__law_mixed_right, F__law_mixed_right⟩ := fun_x (x := "_law_mixed_right") (j := 55) d 40 rfl
  obtain ⟨fd__law_refused, F__law_refused⟩ := fun_x (x := "_law_refused") (j := 56) d 41 rfl
  obtain ⟨fd_law, F_law⟩ := fun_x (x := "law") (j := 57) d 42 rfl
  obtain ⟨fd_nexts, D_nexts⟩ := d.def_ 43 (d := ⟨("Ways", some "nexts"), "nexts", "Ways.nexts", defArgs nextsSt, defBody nextsSt, defScope nextsSt, [], []⟩) rfl
  obtain ⟨fd_init, D_init⟩ := d.def_ 44 (d := ⟨("Ways", some "__init__"), "__init__", "Ways.__init__", defArgs initSt, defBody initSt, defScope initSt, [], []⟩) rfl
  have F_nexts : Fun K "nexts" "Ways.nexts" nextsSt (ma K (ga K "Ways") "nexts") fd_nexts := He5.fun_of D_nexts
  have F_init : Fun K "__init__" "Ways.__init__" initSt (ma K (ga K "Ways") "__init__") fd_init := He5.fun_of D_init
  have gWE := He.glo_ok X G (d.fact 62 (f := .glo "WrongError") rfl)
  refine ⟨fd_law, ?_, fun base TB => ?_⟩
  · intro s u
    obtain ⟨oc, od, kV, doc, pm, an, cdv, ct, osl, rfl, lk, hcd⟩ := F_law.ex
    exact .of_eq rfl
  have TS : TabB base mg (He.codeOf K ("stands_of", none)) (pS K) := TB (cT K ("stands_of", none)) (by simp [tf])
  have TR : TabB base mg (He.codeOf K ("_law_refused", none)) (pR K) := TB (cT K ("_law_refused", none)) (by simp [tf])
  have X_BadLedger : Ex1 K mg (ga K "WrongError") "BadLedger" (ga K "BadLedger") := by
    obtain ⟨h1, h2, h3, h4⟩ := He.exc_ok (d.fact 69 (f := .exc "BadLedger") rfl)
    exact ⟨He.glo_ok X G (d.fact 66 (f := .glo "BadLedger") rfl), h1, h2, h3, h4, A.eL, He.exm_ok (d.fact 73 (f := .exm "BadLedger" "WrongError" true) rfl)⟩
  have Y_BadLedger : ExF K mg (ga K "WrongError") "BadLedger" (ga K "BadLedger") := ⟨X_BadLedger.g, X_BadLedger.isx, X_BadLedger.cg⟩
  have X_BadWeaving : Ex1 K mg (ga K "WrongError") "BadWeaving" (ga K "BadWeaving") := by
    obtain ⟨h1, h2, h3, h4⟩ := He.exc_ok (d.fact 68 (f := .exc "BadWeaving") rfl)
    exact ⟨He.glo_ok X G (d.fact 65 (f := .glo "BadWeaving") rfl), h1, h2, h3, h4, A.eW, He.exm_ok (d.fact 72 (f := .exm "BadWeaving" "WrongError" true) rfl)⟩
  have Y_BadWeaving : ExF K mg (ga K "WrongError") "BadWeaving" (ga K "BadWeaving") := ⟨X_BadWeaving.g, X_BadWeaving.isx, X_BadWeaving.cg⟩
  have n_BadNumber : PySem.W.findIn K (.ref (ga K "BadNumber")) "part" = some none := He.noat_ok (d.fact 74 (f := .noat "BadNumber" "part") rfl)
  have X_BadNumber : Ex2 P w K mg base (ga K "WrongError") "BadNumber" "part" (ga K "BadNumber") := ⟨He.glo_ok X G (d.fact 63 (f := .glo "BadNumber") rfl), IN.oex, ini_BadNumber IN A.op c.kB T n_BadNumber hfile htop, A.eN, He.exm_ok (d.fact 70 (f := .exm "BadNumber" "WrongError" true) rfl), IN.xf, n_BadNumber⟩
  have Y_BadNumber : ExF K mg (ga K "WrongError") "BadNumber" (ga K "BadNumber") := ⟨X_BadNumber.g, X_BadNumber.isx, X_BadNumber.cg⟩
  have n_TooMany : PySem.W.findIn K (.ref (ga K "TooMany")) "most" = some none := He.noat_ok (d.fact 75 (f := .noat "TooMany" "most") rfl)
  have X_TooMany : Ex2 P w K mg base (ga K "WrongError") "TooMany" "most" (ga K "TooMany") := ⟨He.glo_ok X G (d.fact 64 (f := .glo "TooMany") rfl), IM.oex, ini_TooMany IM A.op c.kT T n_TooMany hfile htop, A.eM, He.exm_ok (d.fact 71 (f := .exm "TooMany" "WrongError" true) rfl), IM.xf, n_TooMany⟩
  have Y_TooMany : ExF K mg (ga K "WrongError") "TooMany" (ga K "TooMany") := ⟨X_TooMany.g, X_TooMany.isx, X_TooMany.cg⟩
  have O_is_number := ok_is_number (P := P) (w := w) (base := base) F_is_number T
  have B_is_number := F_is_number.binds (ps := ["thing"]) (fun _ _ _ _ _ _ us hl => match us, hl with | [_], _ => rfl)
  have C_is_number : Cl P w K mg base CX0 1 "is_number" spNumber := ⟨_, _, _, He.glo_ok X G (d.fact 0 (f := .glo "is_number") rfl), F_is_number.kp, B_is_number, O_is_number⟩
  have O_is_between := ok_is_between (P := P) (w := w) (base := base) F_is_between T C_is_number
  have B_is_between := F_is_between.binds (ps := ["thing", "low", "high"]) (fun _ _ _ _ _ _ us hl => match us, hl with | [_, _, _], _ => rfl)
  have C_is_between : Cl P w K mg base CX0 2 "is_between" spBetween := ⟨_, _, _, He.glo_ok X G (d.fact 1 (f := .glo "is_between") rfl), F_is_between.kp, B_is_between, O_is_between⟩
  have O_is_list := ok_is_list (P := P) (w := w) (base := base) (Tb := TbK K) F_is_list T
  have B_is_list := F_is_list.binds (ps := ["thing"]) (fun _ _ _ _ _ _ us hl => match us, hl with | [_], _ => rfl)
  have C_is_list : Cl P w K mg base CX0 1 "is_list" (spList (TbK K)) := ⟨_, _, _, He.glo_ok X G (d.fact 2 (f := .glo "is_list") rfl), F_is_list.kp, B_is_list, O_is_list⟩
  have O_is_tuple := ok_is_tuple (P := P) (w := w) (base := base) F_is_tuple T
  have B_is_tuple := F_is_tuple.binds (ps := ["thing", "size"]) (fun _ _ _ _ _ _ us hl => match us, hl with | [_, _], _ => rfl)
  have C_is_tuple : Cl P w K mg base CX0 1 "is_tuple" spTuple := ⟨_, _, _, He.glo_ok X G (d.fact 3 (f := .glo "is_tuple") rfl), F_is_tuple.kp, B_is_tuple, O_is_tuple⟩
  have O_is_count_row := ok_is_count_row (P := P) (w := w) (base := base) (Tb := TbK K) F_is_count_row T C_is_tuple C_is_between
  have B_is_count_row := F_is_count_row.binds (ps := ["thing"]) (fun _ _ _ _ _ _ us hl => match us, hl with | [_], _ => rfl)
  have C_is_count_row : Cl P w K mg base CX0 3 "is_count_row" (spCountRow (TbK K)) := ⟨_, _, _, He.glo_ok X G (d.fact 7 (f := .glo "is_count_row") rfl), F_is_count_row.kp, B_is_count_row, O_is_count_row⟩
  have O_is_step_name := ok_is_step_name (P := P) (w := w) (base := base) F_is_step_name T C_is_tuple C_is_between
  have B_is_step_name := F_is_step_name.binds (ps := ["counts", "thing"]) (fun _ _ _ _ _ _ us hl => match us, hl with | [_, _], _ => rfl)
  have C_is_step_name : Cl P w K mg base CX0 3 "is_step_name" spStepName := ⟨_, _, _, He.glo_ok X G (d.fact 8 (f := .glo "is_step_name") rfl), F_is_step_name.kp, B_is_step_name, O_is_step_name⟩
  have O_is_ledger_entry := ok_is_ledger_entry (P := P) (w := w) (base := base) F_is_ledger_entry T C_is_tuple C_is_step_name
  have B_is_ledger_entry := F_is_ledger_entry.binds (ps := ["counts", "thing"]) (fun _ _ _ _ _ _ us hl => match us, hl with | [_, _], _ => rfl)
  have C_is_ledger_entry : Cl P w K mg base CX0 4 "is_ledger_entry" spLedgerEntry := ⟨_, _, _, He.glo_ok X G (d.fact 9 (f := .glo "is_ledger_entry") rfl), F_is_ledger_entry.kp, B_is_ledger_entry, O_is_ledger_entry⟩
  have O_waits_of := ok_waits_of (P := P) (w := w) (base := base) (Tb := TbK K) F_waits_of T
  have B_waits_of := F_waits_of.binds (ps := ["entries"]) (fun _ _ _ _ _ _ us hl => match us, hl with | [_], _ => rfl)
  have C_waits_of : Cl P w K mg base CX0 1 "waits_of" (spWaits (TbK K)) := ⟨_, _, _, He.glo_ok X G (d.fact 10 (f := .glo "waits_of") rfl), F_waits_of.kp, B_waits_of, O_waits_of⟩
  have O_is_let := ok_is_let (P := P) (w := w) (base := base) (Tb := TbK K) F_is_let T
  have B_is_let := F_is_let.binds (ps := ["waits", "done", "thread"]) (fun _ _ _ _ _ _ us hl => match us, hl with | [_, _, _], _ => rfl)
  have C_is_let : Cl P w K mg base CX0 1 "is_let" (spIsLet (TbK K)) := ⟨_, _, _, He.glo_ok X G (d.fact 11 (f := .glo "is_let") rfl), F_is_let.kp, B_is_let, O_is_let⟩
  have O_let_threads := ok_let_threads (P := P) (w := w) (base := base) (Tb := TbK K) F_let_threads T C_is_let
  have B_let_threads := F_let_threads.binds (ps := ["counts", "waits", "done"]) (fun _ _ _ _ _ _ us hl => match us, hl with | [_, _, _], _ => rfl)
  have C_let_threads : Cl P w K mg base CX0 2 "let_threads" (spLets (TbK K)) := ⟨_, _, _, He.glo_ok X G (d.fact 12 (f := .glo "let_threads") rfl), F_let_threads.kp, B_let_threads, O_let_threads⟩
  have O_woven := ok_woven (P := P) (w := w) (base := base) (Tb := TbK K) F_woven T C_let_threads
  have B_woven := F_woven.binds (ps := ["counts", "waits", "done"]) (fun _ _ _ _ _ _ us hl => match us, hl with | [_, _, _], _ => rfl)
  have C_woven : Cl P w K mg base CX0 3 "woven" (spWoven (TbK K)) := ⟨_, _, _, He.glo_ok X G (d.fact 13 (f := .glo "woven") rfl), F_woven.kp, B_woven, O_woven⟩
  have O_is_ledger := ok_is_ledger (P := P) (w := w) (base := base) (Tb := TbK K) F_is_ledger T C_is_tuple C_is_count_row C_is_ledger_entry C_woven C_waits_of
  have B_is_ledger := F_is_ledger.binds (ps := ["thing"]) (fun _ _ _ _ _ _ us hl => match us, hl with | [_], _ => rfl)
  have C_is_ledger : Cl P w K mg base CX0 5 "is_ledger" (spIsLedger (TbK K)) := ⟨_, _, _, He.glo_ok X G (d.fact 14 (f := .glo "is_ledger") rfl), F_is_ledger.kp, B_is_ledger, O_is_ledger⟩
  have O_need_between := ok_need_between (P := P) (w := w) (base := base) F_need_between T X_BadNumber C_is_between
  have B_need_between := F_need_between.binds (ps := ["number", "low", "high", "part"]) (fun _ _ _ _ _ _ us hl => match us, hl with | [_, _, _, _], _ => rfl)
  have C_need_between : Cl P w K mg base (L2.CX P w) 3 "need_between" (spNeedBetween (ga K "BadNumber")) := ⟨_, _, _, He.glo_ok X G (d.fact 4 (f := .glo "need_between") rfl), F_need_between.kp, B_need_between, O_need_between⟩
  have O_is_weaving := ok_is_weaving (P := P) (w := w) (base := base) (Tb := TbK K) F_is_weaving T C_is_list C_is_between
  have B_is_weaving := F_is_weaving.binds (ps := ["thing"]) (fun _ _ _ _ _ _ us hl => match us, hl with | [_], _ => rfl)
  have C_is_weaving : Cl P w K mg base CX0 3 "is_weaving" (spIsWeaving (TbK K)) := ⟨_, _, _, He.glo_ok X G (d.fact 5 (f := .glo "is_weaving") rfl), F_is_weaving.kp, B_is_weaving, O_is_weaving⟩
  have O_step_names := ok_step_names (P := P) (w := w) (base := base) (Tb := TbK K) F_step_names T
  have B_step_names := F_step_names.binds (ps := ["weaving"]) (fun _ _ _ _ _ _ us hl => match us, hl with | [_], _ => rfl)
  have C_step_names : Cl P w K mg base CX0 1 "step_names" (spStepNames (TbK K)) := ⟨_, _, _, He.glo_ok X G (d.fact 6 (f := .glo "step_names") rfl), F_step_names.kp, B_step_names, O_step_names⟩
  have O_need_ledger := ok_need_ledger (P := P) (w := w) (base := base) (Tb := TbK K) F_need_ledger T X_BadLedger C_is_ledger
  have B_need_ledger := F_need_ledger.binds (ps := ["ledger"]) (fun _ _ _ _ _ _ us hl => match us, hl with | [_], _ => rfl)
  have C_need_ledger : Cl P w K mg base (L2.CX P w) 6 "need_ledger" (spNeedLedger (TbK K) (ga K "BadLedger")) := ⟨_, _, _, He.glo_ok X G (d.fact 15 (f := .glo "need_ledger") rfl), F_need_ledger.kp, B_need_ledger, O_need_ledger⟩
  have O_is_kept_by := ok_is_kept_by (P := P) (w := w) (base := base) (Tb := TbK K) F_is_kept_by T C_step_names
  have B_is_kept_by := F_is_kept_by.binds (ps := ["ledger", "weaving"]) (fun _ _ _ _ _ _ us hl => match us, hl with | [_, _], _ => rfl)
  have C_is_kept_by : Cl P w K mg base CX0 2 "is_kept_by" (spIsKept (TbK K)) := ⟨_, _, _, He.glo_ok X G (d.fact 16 (f := .glo "is_kept_by") rfl), F_is_kept_by.kp, B_is_kept_by, O_is_kept_by⟩
  have O_need_few_stands := ok_need_few_stands (P := P) (w := w) (base := base) F_need_few_stands T X_TooMany
  have B_need_few_stands := F_need_few_stands.binds (ps := ["counts"]) (fun _ _ _ _ _ _ us hl => match us, hl with | [_], _ => rfl)
  have C_need_few_stands : Cl P w K mg base (L2.CX P w) 3 "need_few_stands" (spFew (ga K "TooMany")) := ⟨_, _, _, He.glo_ok X G (d.fact 17 (f := .glo "need_few_stands") rfl), F_need_few_stands.kp, B_need_few_stands, O_need_few_stands⟩
  have O_stepped_stand := ok_stepped_stand (P := P) (w := w) (base := base) (Tb := TbK K) F_stepped_stand T
  have B_stepped_stand := F_stepped_stand.binds (ps := ["stand", "thread"]) (fun _ _ _ _ _ _ us hl => match us, hl with | [_, _], _ => rfl)
  have C_stepped_stand : Cl P w K mg base CX0 1 "stepped_stand" (spStepped (TbK K)) := ⟨_, _, _, He.glo_ok X G (d.fact 19 (f := .glo "stepped_stand") rfl), F_stepped_stand.kp, B_stepped_stand, O_stepped_stand⟩
  have neT : pR K ≠ pS K := A.ne
  have hu_stands_of : ∀ p ∈ TbK K, p.1 = pS K → p.2 = qS := by
    intro p hp e
    rcases List.mem_cons.mp hp with rfl | hp
    · rfl
    · obtain rfl := List.mem_singleton.mp hp
      exact absurd e neT
  have hu_law_refused : ∀ p ∈ TbK K, p.1 = pR K → p.2 = qR := by
    intro p hp e
    rcases List.mem_cons.mp hp with rfl | hp
    · exact absurd e.symm neT
    · obtain rfl := List.mem_singleton.mp hp
      rfl
  have O_stands_of := ok_stands_of (P := P) (w := w) (base := base) (Tb := TbK K) (funC_of F_stands_of) T TS (by simp) (fun p hp e => hu_stands_of p hp e)
  have B_stands_of := F_stands_of.binds (ps := ["counts"]) (fun _ _ _ _ _ _ us hl => match us, hl with | [_], _ => rfl)
  have C_stands_of : Cl P w K mg base CX0 2 "stands_of" (spStands (TbK K)) := ⟨_, _, _, He.glo_ok X G (d.fact 18 (f := .glo "stands_of") rfl), F_stands_of.kp, B_stands_of, O_stands_of⟩
  have hC : WCls K (ga K "Ways") := ⟨He.cls_ok (d.fact 76 (f := .cls "Ways") rfl), He.noat_ok (d.fact 77 (f := .noat "Ways" "counts") rfl), He.noat_ok (d.fact 78 (f := .noat "Ways" "waits") rfl), He.noat_ok (d.fact 79 (f := .noat "Ways" "ways") rfl)⟩
  have MN := He.meth_ok (d.fact 80 (f := .meth "Ways" "nexts") rfl)
  have O_nexts := ok_nexts (P := P) (w := w) (base := base) (Tb := TbK K) F_nexts T hC C_let_threads C_stepped_stand
  have B_nexts := F_nexts.binds (ps := ["self", "stand"]) (fun _ _ _ _ _ _ us hl => match us, hl with | [_, _], _ => rfl)
  have O_init := ok_init (P := P) (w := w) (base := base) (Tb := TbK K) F_init T hC MN ⟨_, O_nexts, B_nexts⟩ C_waits_of C_stands_of
  have B_init := F_init.binds (ps := ["self", "ledger"]) (fun _ _ _ _ _ _ us hl => match us, hl with | [_, _], _ => rfl)
  have C_Ways : WaysC P w K mg base (TbK K) (ga K "Ways") := ⟨He.glo_ok X G (d.fact 67 (f := .glo "Ways") rfl), hC, ⟨_, fd_init, He.mkr_ok (d.fact 81 (f := .mkr "Ways") rfl), O_init, B_init⟩⟩
  have O_need_countable := ok_need_countable (P := P) (w := w) (base := base) (Tb := TbK K) F_need_countable T C_need_ledger C_need_few_stands
  have B_need_countable := F_need_countable.binds (ps := ["ledger"]) (fun _ _ _ _ _ _ us hl => match us, hl with | [_], _ => rfl)
  have C_need_countable : Cl P w K mg base (L2.CX P w) 7 "need_countable" (spCountable (TbK K) (ga K "BadLedger") (ga K "TooMany")) := ⟨_, _, _, He.glo_ok X G (d.fact 20 (f := .glo "need_countable") rfl), F_need_countable.kp, B_need_countable, O_need_countable⟩
  have O_need_keeping := ok_need_keeping (P := P) (w := w) (base := base) (Tb := TbK K) F_need_keeping T X_BadWeaving C_is_weaving C_is_kept_by
  have B_need_keeping := F_need_keeping.binds (ps := ["ledger", "weaving"]) (fun _ _ _ _ _ _ us hl => match us, hl with | [_, _], _ => rfl)
  have C_need_keeping : Cl P w K mg base (L2.CX P w) 4 "need_keeping" (spKeeping (TbK K) (ga K "BadWeaving")) := ⟨_, _, _, He.glo_ok X G (d.fact 21 (f := .glo "need_keeping") rfl), F_need_keeping.kp, B_need_keeping, O_need_keeping⟩
  have O_how_many := ok_how_many (P := P) (w := w) (base := base) (Tb := TbK K) F_how_many T C_Ways C_need_countable
  have B_how_many := F_how_many.binds (ps := ["ledger"]) (fun _ _ _ _ _ _ us hl => match us, hl with | [_], _ => rfl)
  have C_how_many : Cl P w K mg base (L2.CX P w) 8 "how_many" (spHowMany (TbK K) (ga K "BadLedger") (ga K "TooMany")) := ⟨_, _, _, He.glo_ok X G (d.fact 22 (f := .glo "how_many") rfl), F_how_many.kp, B_how_many, O_how_many⟩
  have R_how_many : ClR P w K mg base (L2.CX P w) 8 "how_many" ["ledger"] (spHowMany (TbK K) (ga K "BadLedger") (ga K "TooMany")) := ⟨_, _, ["ledger"], He.glo_ok X G (d.fact 22 (f := .glo "how_many") rfl), F_how_many.kp, rev1 (p := "ledger") F_how_many (fun _ _ _ _ _ _ _ => rfl), O_how_many⟩
  have O_least_weaving := ok_least_weaving (P := P) (w := w) (base := base) (Tb := TbK K) F_least_weaving T C_need_countable C_woven C_waits_of
  have B_least_weaving := F_least_weaving.binds (ps := ["ledger"]) (fun _ _ _ _ _ _ us hl => match us, hl with | [_], _ => rfl)
  have C_least_weaving : Cl P w K mg base (L2.CX P w) 8 "least_weaving" (spLeast (TbK K) (ga K "BadLedger") (ga K "TooMany")) := ⟨_, _, _, He.glo_ok X G (d.fact 23 (f := .glo "least_weaving") rfl), F_least_weaving.kp, B_least_weaving, O_least_weaving⟩
  have R_least_weaving : ClR P w K mg base (L2.CX P w) 8 "least_weaving" ["ledger"] (spLeast (TbK K) (ga K "BadLedger") (ga K "TooMany")) := ⟨_, _, ["ledger"], He.glo_ok X G (d.fact 23 (f := .glo "least_weaving") rfl), F_least_weaving.kp, rev1 (p := "ledger") F_least_weaving (fun _ _ _ _ _ _ _ => rfl), O_least_weaving⟩
  have O_next_weaving := ok_next_weaving (P := P) (w := w) (base := base) (Tb := TbK K) F_next_weaving T C_need_ledger C_need_keeping C_need_few_stands C_woven C_waits_of C_let_threads
  have B_next_weaving := F_next_weaving.binds (ps := ["ledger", "weaving"]) (fun _ _ _ _ _ _ us hl => match us, hl with | [_, _], _ => rfl)
  have C_next_weaving : Cl P w K mg base (L2.CX P w) 8 "next_weaving" (spNext (TbK K) (ga K "BadLedger") (ga K "BadWeaving") (ga K "TooMany")) := ⟨_, _, _, He.glo_ok X G (d.fact 24 (f := .glo "next_weaving") rfl), F_next_weaving.kp, B_next_weaving, O_next_weaving⟩
  have R_next_weaving : ClR P w K mg base (L2.CX P w) 8 "next_weaving" ["weaving", "ledger"] (spNext (TbK K) (ga K "BadLedger") (ga K "BadWeaving") (ga K "TooMany")) := ⟨_, _, ["ledger", "weaving"], He.glo_ok X G (d.fact 24 (f := .glo "next_weaving") rfl), F_next_weaving.kp, rev2 (p := "ledger") (q := "weaving") F_next_weaving (fun _ _ _ _ _ _ _ _ => rfl), O_next_weaving⟩
  have O_weaving_at := ok_weaving_at (P := P) (w := w) (base := base) (Tb := TbK K) F_weaving_at T C_Ways C_need_ledger C_need_between C_need_few_stands C_stepped_stand C_let_threads
  have B_weaving_at := F_weaving_at.binds (ps := ["ledger", "number"]) (fun _ _ _ _ _ _ us hl => match us, hl with | [_, _], _ => rfl)
  have C_weaving_at : Cl P w K mg base (L2.CX P w) 8 "weaving_at" (spAt (TbK K) (ga K "BadLedger") (ga K "BadNumber") (ga K "TooMany")) := ⟨_, _, _, He.glo_ok X G (d.fact 25 (f := .glo "weaving_at") rfl), F_weaving_at.kp, B_weaving_at, O_weaving_at⟩
  have R_weaving_at : ClR P w K mg base (L2.CX P w) 8 "weaving_at" ["number", "ledger"] (spAt (TbK K) (ga K "BadLedger") (ga K "BadNumber") (ga K "TooMany")) := ⟨_, _, ["ledger", "number"], He.glo_ok X G (d.fact 25 (f := .glo "weaving_at") rfl), F_weaving_at.kp, rev2 (p := "ledger") (q := "number") F_weaving_at (fun _ _ _ _ _ _ _ _ => rfl), O_weaving_at⟩
  have O_place_of := ok_place_of (P := P) (w := w) (base := base) (Tb := TbK K) F_place_of T C_Ways C_need_ledger C_need_keeping C_need_few_stands C_stepped_stand C_let_threads
  have B_place_of := F_place_of.binds (ps := ["ledger", "weaving"]) (fun _ _ _ _ _ _ us hl => match us, hl with | [_, _], _ => rfl)
  have C_place_of : Cl P w K mg base (L2.CX P w) 8 "place_of" (spPlace (TbK K) (ga K "BadLedger") (ga K "BadWeaving") (ga K "TooMany")) := ⟨_, _, _, He.glo_ok X G (d.fact 26 (f := .glo "place_of") rfl), F_place_of.kp, B_place_of, O_place_of⟩
  have R_place_of : ClR P w K mg base (L2.CX P w) 8 "place_of" ["weaving", "ledger"] (spPlace (TbK K) (ga K "BadLedger") (ga K "BadWeaving") (ga K "TooMany")) := ⟨_, _, ["ledger", "weaving"], He.glo_ok X G (d.fact 26 (f := .glo "place_of") rfl), F_place_of.kp, rev2 (p := "ledger") (q := "weaving") F_place_of (fun _ _ _ _ _ _ _ _ => rfl), O_place_of⟩
  have O__law_begun := ok_law_begun (P := P) (w := w) (base := base) (Tb := TbK K) F__law_begun T
  have B__law_begun := F__law_begun.binds (ps := ["_law_script"]) (fun _ _ _ _ _ _ us hl => match us, hl with | [_], _ => rfl)
  have C__law_begun : Cl P w K mg base CX0 1 "_law_begun" (spBegun K (TbK K)) := ⟨_, _, _, He.glo_ok X G (d.fact 27 (f := .glo "_law_begun") rfl), F__law_begun.kp, B__law_begun, O__law_begun⟩
  have O__law_mixed := ok_law_mixed (P := P) (w := w) (base := base) (Tb := TbK K) F__law_mixed T
  have B__law_mixed := F__law_mixed.binds (ps := ["_law_draw"]) (fun _ _ _ _ _ _ us hl => match us, hl with | [_], _ => rfl)
  have C__law_mixed : Cl P w K mg base CX0 1 "_law_mixed" (spMixed (TbK K)) := ⟨_, _, _, He.glo_ok X G (d.fact 28 (f := .glo "_law_mixed") rfl), F__law_mixed.kp, B__law_mixed, O__law_mixed⟩
  have O__law_take := ok_law_take (P := P) (w := w) (base := base) (Tb := TbK K) F__law_take T C__law_mixed
  have B__law_take := F__law_take.binds (ps := ["_law_draw", "_law_amount"]) (fun _ _ _ _ _ _ us hl => match us, hl with | [_, _], _ => rfl)
  have C__law_take : Cl P w K mg base CX0 2 "_law_take" (spTake (TbK K)) := ⟨_, _, _, He.glo_ok X G (d.fact 29 (f := .glo "_law_take") rfl), F__law_take.kp, B__law_take, O__law_take⟩
  have O__law_pick := ok_law_pick (P := P) (w := w) (base := base) (Tb := TbK K) F__law_pick T C__law_take
  have B__law_pick := F__law_pick.binds (ps := ["_law_draw", "_law_some"]) (fun _ _ _ _ _ _ us hl => match us, hl with | [_, _], _ => rfl)
  have C__law_pick : Cl P w K mg base CX0 3 "_law_pick" (spPick (TbK K)) := ⟨_, _, _, He.glo_ok X G (d.fact 30 (f := .glo "_law_pick") rfl), F__law_pick.kp, B__law_pick, O__law_pick⟩
  have O__law_shuffled := ok_law_shuffled (P := P) (w := w) (base := base) (Tb := TbK K) F__law_shuffled T C__law_take
  have B__law_shuffled := F__law_shuffled.binds (ps := ["_law_draw", "_law_some"]) (fun _ _ _ _ _ _ us hl => match us, hl with | [_, _], _ => rfl)
  have C__law_shuffled : Cl P w K mg base CX0 3 "_law_shuffled" (spShuffled (TbK K)) := ⟨_, _, _, He.glo_ok X G (d.fact 31 (f := .glo "_law_shuffled") rfl), F__law_shuffled.kp, B__law_shuffled, O__law_shuffled⟩
  have O__law_names := ok_law_names (P := P) (w := w) (base := base) (Tb := TbK K) F__law_names T
  have B__law_names := F__law_names.binds (ps := ["_law_weaving_here"]) (fun _ _ _ _ _ _ us hl => match us, hl with | [_], _ => rfl)
  have C__law_names : Cl P w K mg base CX0 1 "_law_names" (spLNames (TbK K)) := ⟨_, _, _, He.glo_ok X G (d.fact 33 (f := .glo "_law_names") rfl), F__law_names.kp, B__law_names, O__law_names⟩
  have O__law_counts := ok_law_counts (P := P) (w := w) (base := base) (Tb := TbK K) F__law_counts T
  have B__law_counts := F__law_counts.binds (ps := ["_law_weaving_here"]) (fun _ _ _ _ _ _ us hl => match us, hl with | [_], _ => rfl)
  have C__law_counts : Cl P w K mg base CX0 1 "_law_counts" (spLCounts (TbK K)) := ⟨_, _, _, He.glo_ok X G (d.fact 34 (f := .glo "_law_counts") rfl), F__law_counts.kp, B__law_counts, O__law_counts⟩
  have O__law_let := ok_law_let (P := P) (w := w) (base := base) (Tb := TbK K) F__law_let T
  have B__law_let := F__law_let.binds (ps := ["_law_ledger_here", "_law_done_here"]) (fun _ _ _ _ _ _ us hl => match us, hl with | [_, _], _ => rfl)
  have C__law_let : Cl P w K mg base CX0 1 "_law_let" (spLLet K (TbK K)) := ⟨_, _, _, He.glo_ok X G (d.fact 35 (f := .glo "_law_let") rfl), F__law_let.kp, B__law_let, O__law_let⟩
  have O__law_all_woven := ok_law_all_woven (P := P) (w := w) (base := base) (Tb := TbK K) F__law_all_woven T C__law_let
  have B__law_all_woven := F__law_all_woven.binds (ps := ["_law_ledger_here", "_law_most"]) (fun _ _ _ _ _ _ us hl => match us, hl with | [_, _], _ => rfl)
  have C__law_all_woven : Cl P w K mg base CX0 2 "_law_all_woven" (spAll (TbK K)) := ⟨_, _, _, He.glo_ok X G (d.fact 36 (f := .glo "_law_all_woven") rfl), F__law_all_woven.kp, B__law_all_woven, O__law_all_woven⟩
  have O__law_weaving := ok_law_weaving (P := P) (w := w) (base := base) (Tb := TbK K) F__law_weaving T C__law_take C__law_pick C__law_shuffled
  have B__law_weaving := F__law_weaving.binds (ps := ["_law_draw", "_law_most"]) (fun _ _ _ _ _ _ us hl => match us, hl with | [_, _], _ => rfl)
  have C__law_weaving : Cl P w K mg base CX0 4 "_law_weaving" (spLWeav (TbK K)) := ⟨_, _, _, He.glo_ok X G (d.fact 37 (f := .glo "_law_weaving") rfl), F__law_weaving.kp, B__law_weaving, O__law_weaving⟩
  have O__law_ledger := ok_law_ledger (P := P) (w := w) (base := base) (Tb := TbK K) F__law_ledger T C__law_take C__law_weaving C__law_names C__law_counts
  have B__law_ledger := F__law_ledger.binds (ps := ["_law_draw", "_law_most"]) (fun _ _ _ _ _ _ us hl => match us, hl with | [_, _], _ => rfl)
  have C__law_ledger : Cl P w K mg base CX0 5 "_law_ledger" (spLLed (TbK K)) := ⟨_, _, _, He.glo_ok X G (d.fact 38 (f := .glo "_law_ledger") rfl), F__law_ledger.kp, B__law_ledger, O__law_ledger⟩
  have O__law_listed_right := ok_law_listed_right (P := P) (w := w) (base := base) (Tb := TbK K) F__law_listed_right T C__law_take C__law_all_woven C_how_many R_how_many C_least_weaving R_least_weaving C_next_weaving R_next_weaving C_weaving_at R_weaving_at C_place_of R_place_of
  have B__law_listed_right := F__law_listed_right.binds (ps := ["_law_draw", "_law_ledger_here"]) (fun _ _ _ _ _ _ us hl => match us, hl with | [_, _], _ => rfl)
  have C__law_listed_right : ClG P w K mg base CX0 9 "_law_listed_right" (spListed (TbK K)) := ⟨_, _, _, He.glo_ok X G (d.fact 39 (f := .glo "_law_listed_right") rfl), F__law_listed_right.kp, B__law_listed_right, O__law_listed_right⟩
  have O__law_mixed_right := ok_law_mixed_right (P := P) (w := w) (base := base) (Tb := TbK K) F__law_mixed_right T C__law_take C__law_shuffled C__law_counts C_how_many C_weaving_at C_place_of
  have B__law_mixed_right := F__law_mixed_right.binds (ps := ["_law_draw"]) (fun _ _ _ _ _ _ us hl => match us, hl with | [_], _ => rfl)
  have C__law_mixed_right : Cl P w K mg base CX0 9 "_law_mixed_right" (spMixR (TbK K)) := ⟨_, _, _, He.glo_ok X G (d.fact 40 (f := .glo "_law_mixed_right") rfl), F__law_mixed_right.kp, B__law_mixed_right, O__law_mixed_right⟩
  have O__law_refused := ok_law_refused (P := P) (w := w) (base := base) (Tb := TbK K) (funC_of F__law_refused) T TR (by simp) (fun p hp e => hu_law_refused p hp e) F__law_caught (He.glo_ok X G (d.fact 32 (f := .glo "_law_caught") rfl)) gWE Y_BadLedger Y_BadWeaving Y_BadNumber Y_TooMany X_BadNumber.xf X_BadNumber.no X_TooMany.xf X_TooMany.no C__law_pick C__law_all_woven C_how_many C_least_weaving C_next_weaving C_weaving_at C_place_of
  have B__law_refused := F__law_refused.binds (ps := ["_law_draw", "_law_ledger_here"]) (fun _ _ _ _ _ _ us hl => match us, hl with | [_, _], _ => rfl)
  have C__law_refused : Cl P w K mg base CX0 11 "_law_refused" (spRefused (TbK K)) := ⟨_, _, _, He.glo_ok X G (d.fact 41 (f := .glo "_law_refused") rfl), F__law_refused.kp, B__law_refused, O__law_refused⟩
  exact ok_law F_law T C__law_begun C__law_ledger C__law_listed_right C__law_mixed_right C__law_refused
end
end K81
set_option maxHeartbeats 0
namespace K81
open PySem PySem.Spec PyProof.Rows L2 LamX K81M StX RZ NdefX He
theorem lawAt {w : World} {h : Heap} {K : PySem.W.Frag} {mg : Str → Option Value} {f : Addr} (X : K.In h) (G : h.Ns mainGlobals mg) (hf : mg ("law" : Str) = some (.ref f)) (c : SaysM w h K)
    (hfile : ((PySem.Challenge.rw_firstwrong_k81_whole_counting_weavings.prog.main.file : Str) == mf) = true) (htop : (PySem.Challenge.rw_firstwrong_k81_whole_counting_weavings.prog.main.scope.names.lookup ("super" : Str)).isSome = false) :
    LawAtG PySem.Challenge.rw_firstwrong_k81_whole_counting_weavings w K 12 63 "_law_script" mg f h := by
  have d : He.SaysD fa fn K := c.x.t.d
  have e := hf.symm.trans (He.glo_ok X G (d.fact 42 (f := .glo "law") rfl))
  cases e
  obtain ⟨fd, hb, hF⟩ := law_all (P := PySem.Challenge.rw_firstwrong_k81_whole_counting_weavings.prog) X G c hfile htop
  refine ⟨fd, tf.map (cT K), spLaw K (TbK K), fun p hp => ?_, fun p hp => ?_, fun p hp => ?_, hb, fun H a ns hl hT hS => ⟨a, ns, rfl, hS, Nat.le_trans hl (by decide), fun p hp => ?_, fun _ => rfl⟩, fun base _ _ TB => hF base TB⟩
  · obtain ⟨q, hq, rfl⟩ := List.mem_map.mp hp
    exact c.x.empty q hq
  · obtain ⟨q, hq, rfl⟩ := List.mem_map.mp hp
    exact c.x.out q hq
  · obtain ⟨q, hq, rfl⟩ := List.mem_map.mp hp
    exact PySem.W.codeHd_of_K X (c.x.hd q hq)
  · rcases List.mem_cons.mp hp with rfl | hp
    · exact .nil (hT (cT K ("stands_of", none)) (by simp [tf]))
    · obtain rfl := List.mem_singleton.mp hp
      exact .nil (hT (cT K ("_law_refused", none)) (by simp [tf]))
end K81
open PySem PySem.W PySem.Calls PyProof.Rows
theorem PySem.Challenge.cw_firstwrong_k81_whole_counting_weavings_holds : PySem.Challenge.rw_firstwrong_k81_whole_counting_weavings.Holds := by
  w_on; o_law
  refine HandSHeadRun.head_any (r := OpenLaw.row PySem.Challenge.rw_firstwrong_k81_whole_counting_weavings) (q := view (OpenLaw.row PySem.Challenge.rw_firstwrong_k81_whole_counting_weavings).prog [57]) (H := K81.hk) (ob := K81.ob) (M := 20000) (loose := K81.loose) (d := HandSHeadRun.topDef (OpenLaw.row PySem.Challenge.rw_firstwrong_k81_whole_counting_weavings).prog 57) (kwd := []) K81.ob_eq
    (by kernel_rfl) (fun s => by kernel_rfl) K81.run (by kernel_rfl) (by kernel_rfl) (by kernel_rfl) (by rfl) (by first | assumption | decide +kernel) (by decide +kernel) ⟨rfl, rfl, rfl, rfl, rfl, by decide +kernel⟩ ?hw ?hc
  case hw => w_witness2
  case hc =>
    refine K81.walkG (l := PySem.Challenge.rw_firstwrong_k81_whole_counting_weavings) (n := 63) (k := 12) (x := "_law_script") rfl (by decide) (by kernel_rfl) ⟨rfl, by decide, by decide⟩ ?F
    intro w mg fa h Y G hmg0
    obtain ⟨K, KX, c⟩ := Y
    have hmg : mg ("law" : PySem.Str) = some (.ref fa) := by
      have e : (HandSHeadRun.topDef (OpenLaw.row PySem.Challenge.rw_firstwrong_k81_whole_counting_weavings).prog 57).name = ("law" : PySem.Str) := by kernel_rfl
      rw [← e]
      exact hmg0
    exact ⟨K, KX, K81.lawAt KX G hmg c (by kernel_rfl) (by kernel_rfl)⟩
