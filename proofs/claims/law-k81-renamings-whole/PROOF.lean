import PyProof.Rows.All
import Wide.All
import OpenK.AllK
import Wide.FinOn
import HandS.ForMost
import HandS.Walk
import HandS.Star
import HandS.Strs
import HandS.IsInst
import HandS.Conv
import HandS.TupAny
import HandS.Wide
import HandS.NoneIn
import HandS.DictComp
import HandS.Steps
import HandS.MakeKwOnly
import KE.GoesEnum
import KE.KDictDisplayH
import HandS.Codes
import PySem.Challenge.RW_tiepress_k81_renamings_whole
set_option Elab.async false
set_option linter.all false
set_option maxRecDepth 100000
set_option maxHeartbeats 4000000
section
/-! The plain law: cores as lists of masks, presses, what rows of presses reach, renamings. No program in sight. -/
namespace K81
abbrev Core := List Nat
def g (c : List Nat) (i : Nat) : Nat := c.getD i 0
theorem g_get {c : List Nat} {i : Nat} (h : i < c.length) : c[i]? = some (g c i) := by
  rw [List.getElem?_eq_getElem h]
  simp [g, List.getD, h]
theorem g_out {c : List Nat} {i : Nat} (h : c.length ≤ i) : g c i = 0 := by
  simp [g, List.getD, List.getElem?_eq_none h]
theorem g_map_range (f : Nat → Nat) (n i : Nat) (h : i < n) : g ((List.range n).map f) i = f i := by
  simp [g, List.getD, h]
theorem g_set_self {c : List Nat} {i v : Nat} (h : i < c.length) : g (c.set i v) i = v := by
  simp [g, List.getD, h]
theorem g_set_ne {c : List Nat} {i j v : Nat} (h : i ≠ j) : g (c.set i v) j = g c j := by
  simp [g, List.getD, List.getElem?_set_ne h]
theorem g_ext {c d : List Nat} (hl : c.length = d.length) (h : ∀ i, i < c.length → g c i = g d i) : c = d := by
  refine List.ext_getElem? fun i => ?_
  by_cases hi : i < c.length
  · rw [g_get hi, g_get (by omega), h i hi]
  · rw [List.getElem?_eq_none (by omega), List.getElem?_eq_none (by omega)]
theorem take_g {c : List Nat} {i : Nat} (h : i < c.length) : c.take (i + 1) = c.take i ++ [g c i] := by
  rw [List.take_add_one, g_get h]
  rfl
/-! ### good cores -/
def Good (n : Nat) (c : Core) : Prop := c.length = n ∧ ∀ i k, (g c i).testBit k = true → k < n ∧ i ≠ k ∧ (g c k).testBit i = true
theorem Good.sym {n : Nat} {c : Core} (h : Good n c) (i k : Nat) : (g c i).testBit k = (g c k).testBit i := by
  cases h1 : (g c i).testBit k with
  | true => exact (h.2 i k h1).2.2.symm
  | false =>
    cases h2 : (g c k).testBit i with
    | false => rfl
    | true =>
      rw [(h.2 k i h2).2.2] at h1
      cases h1
theorem Good.diag {n : Nat} {c : Core} (h : Good n c) (i : Nat) : (g c i).testBit i = false := by
  cases h1 : (g c i).testBit i with
  | false => rfl
  | true => exact absurd rfl (h.2 i i h1).2.1
theorem Good.high {n : Nat} {c : Core} (h : Good n c) (i k : Nat) (hk : n ≤ k) : (g c i).testBit k = false := by
  cases h1 : (g c i).testBit k with
  | false => rfl
  | true => exact absurd (h.2 i k h1).1 (by omega)
theorem Good.out {n : Nat} {c : Core} (h : Good n c) (i k : Nat) (hi : n ≤ i) : (g c i).testBit k = false := by
  rw [h.sym]
  exact h.high k i hi
theorem Good.ext {n : Nat} {c d : Core} (hc : Good n c) (hd : Good n d) (h : ∀ i k, i < k → k < n → (g c i).testBit k = (g d i).testBit k) : c = d := by
  refine g_ext (by rw [hc.1, hd.1]) fun i hi => Nat.eq_of_testBit_eq fun k => ?_
  rw [hc.1] at hi
  by_cases hk : k < n
  · rcases Nat.lt_trichotomy i k with q | q | q
    · exact h i k q hk
    · subst q
      rw [hc.diag, hd.diag]
    · rw [hc.sym, hd.sym]
      exact h k i q hi
  · rw [hc.high i k (by omega), hd.high i k (by omega)]
theorem Good.lt {n : Nat} {c : Core} (h : Good n c) (i : Nat) : g c i < 2 ^ n := by
  apply Nat.lt_pow_two_of_testBit
  intro k hk
  exact h.high i k hk
/-! ### a press -/
def press (c : Core) (a : Nat) : Core := (List.range c.length).map fun i => if (g c a).testBit i then g c i ^^^ g c a ^^^ 2 ^ i else g c i
theorem press_len (c : Core) (a : Nat) : (press c a).length = c.length := by simp [press]
theorem press_g {c : Core} {a i : Nat} (hi : i < c.length) : g (press c a) i = if (g c a).testBit i then g c i ^^^ g c a ^^^ 2 ^ i else g c i := g_map_range _ _ _ hi
theorem press_bit {n : Nat} {c : Core} (h : Good n c) {a : Nat} (ha : a < n) (i k : Nat) :
    (g (press c a) i).testBit k = ((g c i).testBit k ^^ ((g c a).testBit i && (g c a).testBit k && decide (i ≠ k))) := by
  by_cases hi : i < n
  · rw [press_g (by rw [h.1]; exact hi)]
    cases hb : (g c a).testBit i with
    | false => simp
    | true =>
      simp only [if_true, Nat.testBit_xor, Nat.testBit_two_pow, Bool.true_and]
      by_cases hik : i = k
      · subst hik
        simp [hb, h.diag]
      · simp [hik]
  · have e1 : g (press c a) i = 0 := g_out (by rw [press_len, h.1]; omega)
    rw [e1, Nat.zero_testBit, h.out i k (by omega), h.high a i (by omega)]
    rfl
theorem press_good {n : Nat} {c : Core} (h : Good n c) {a : Nat} (ha : a < n) : Good n (press c a) := by
  refine ⟨by rw [press_len, h.1], fun i k hb => ?_⟩
  rw [press_bit h ha] at hb
  rw [press_bit h ha]
  by_cases hik : i = k
  · subst hik
    simp [h.diag] at hb
  · refine ⟨?_, hik, ?_⟩
    · by_cases hk : k < n
      · exact hk
      · rw [h.high i k (by omega), h.high a k (by omega)] at hb
        simp at hb
    · rw [← hb, h.sym k i, Bool.and_comm ((g c a).testBit k)]
      have e : decide (k ≠ i) = decide (i ≠ k) := by simp [eq_comm]
      rw [e]
/-! ### pairs, ties -/
def pairs (n : Nat) : List (Nat × Nat) := (List.range n).flatMap fun i => (List.range (n - (i + 1))).map fun j => (i, i + 1 + j)
theorem mem_pairs {n : Nat} {p : Nat × Nat} : p ∈ pairs n ↔ p.1 < p.2 ∧ p.2 < n := by
  obtain ⟨i, k⟩ := p
  simp only [pairs, List.mem_flatMap, List.mem_range, List.mem_map, Prod.mk.injEq]
  constructor
  · rintro ⟨a, ha, b, hb, rfl, rfl⟩
    omega
  · rintro ⟨h1, h2⟩
    exact ⟨i, by omega, k - (i + 1), by omega, rfl, by omega⟩
def ties (c : Core) : List (Nat × Nat) := (pairs c.length).filter fun p => (g c p.1).testBit p.2
theorem mem_ties {n : Nat} {c : Core} (h : c.length = n) {p : Nat × Nat} : p ∈ ties c ↔ p.1 < p.2 ∧ p.2 < n ∧ (g c p.1).testBit p.2 = true := by
  simp only [ties, List.mem_filter, mem_pairs, h, and_assoc]
/-! ### a core out of ties -/
def tie (c : Core) (p : Nat × Nat) : Core := (c.set p.1 (g c p.1 ||| 2 ^ p.2)).set p.2 (g (c.set p.1 (g c p.1 ||| 2 ^ p.2)) p.2 ||| 2 ^ p.1)
def coreOf (n : Nat) (ps : List (Nat × Nat)) : Core := ps.foldl tie (List.replicate n 0)
theorem tie_len (c : Core) (p : Nat × Nat) : (tie c p).length = c.length := by simp [tie]
theorem tie_bit {c : Core} {p : Nat × Nat} (h1 : p.1 < c.length) (h2 : p.2 < c.length) (hne : p.1 ≠ p.2) (i k : Nat) :
    (g (tie c p) i).testBit k = ((g c i).testBit k || decide ((i = p.1 ∧ k = p.2) ∨ (i = p.2 ∧ k = p.1))) := by
  unfold tie
  by_cases e2 : i = p.2
  · subst e2
    rw [g_set_self (by simpa using h2), g_set_ne hne, Nat.testBit_or, Nat.testBit_two_pow]
    have : (decide (p.1 = k) : Bool) = decide ((p.2 = p.1 ∧ k = p.2) ∨ (p.2 = p.2 ∧ k = p.1)) := by
      apply decide_eq_decide.mpr
      constructor
      · intro q; exact .inr ⟨rfl, q.symm⟩
      · rintro (⟨q, _⟩ | ⟨_, q⟩)
        · exact absurd q.symm hne
        · exact q.symm
    rw [this]
  · rw [g_set_ne (Ne.symm e2)]
    by_cases e1 : i = p.1
    · subst e1
      rw [g_set_self h1, Nat.testBit_or, Nat.testBit_two_pow]
      have : (decide (p.2 = k) : Bool) = decide ((p.1 = p.1 ∧ k = p.2) ∨ (p.1 = p.2 ∧ k = p.1)) := by
        apply decide_eq_decide.mpr
        constructor
        · intro q; exact .inl ⟨rfl, q.symm⟩
        · rintro (⟨_, q⟩ | ⟨q, _⟩)
          · exact q.symm
          · exact absurd q hne
      rw [this]
    · rw [g_set_ne (Ne.symm e1)]
      have : decide ((i = p.1 ∧ k = p.2) ∨ (i = p.2 ∧ k = p.1)) = false := by
        apply decide_eq_false
        rintro (⟨q, _⟩ | ⟨q, _⟩)
        · exact e1 q
        · exact e2 q
      rw [this, Bool.or_false]
def TieOk (n : Nat) (p : Nat × Nat) : Prop := p.1 < n ∧ p.2 < n ∧ p.1 ≠ p.2
theorem fold_tie_len (ps : List (Nat × Nat)) : ∀ c : Core, (ps.foldl tie c).length = c.length := by
  induction ps with
  | nil => intro c; rfl
  | cons p r ih => intro c; rw [List.foldl_cons, ih, tie_len]
theorem coreOf_len (n : Nat) (ps : List (Nat × Nat)) : (coreOf n ps).length = n := by
  rw [coreOf, fold_tie_len, List.length_replicate]
theorem fold_tie_bit {n : Nat} (ps : List (Nat × Nat)) : ∀ c : Core, c.length = n → (∀ p ∈ ps, TieOk n p) → ∀ i k,
    (g (ps.foldl tie c) i).testBit k = ((g c i).testBit k || decide ((i, k) ∈ ps ∨ (k, i) ∈ ps)) := by
  induction ps with
  | nil => intro c _ _ i k; simp
  | cons p r ih =>
    intro c hc hok i k
    have hp := hok p (List.mem_cons_self ..)
    rw [List.foldl_cons, ih (tie c p) (by rw [tie_len, hc]) (fun q hq => hok q (List.mem_cons_of_mem _ hq)), tie_bit (by rw [hc]; exact hp.1) (by rw [hc]; exact hp.2.1) hp.2.2, Bool.or_assoc]
    congr 1
    rw [← Bool.decide_or]
    apply decide_eq_decide.mpr
    obtain ⟨p1, p2⟩ := p
    simp only [List.mem_cons, Prod.mk.injEq]
    constructor
    · rintro ((⟨a, b⟩ | ⟨a, b⟩) | (h | h))
      · exact .inl (.inl ⟨a, b⟩)
      · exact .inr (.inl ⟨b, a⟩)
      · exact .inl (.inr h)
      · exact .inr (.inr h)
    · rintro ((⟨a, b⟩ | h) | (⟨a, b⟩ | h))
      · exact .inl (.inl ⟨a, b⟩)
      · exact .inr (.inl h)
      · exact .inl (.inr ⟨b, a⟩)
      · exact .inr (.inr h)
theorem coreOf_bit {n : Nat} {ps : List (Nat × Nat)} (hok : ∀ p ∈ ps, TieOk n p) (i k : Nat) : (g (coreOf n ps) i).testBit k = decide ((i, k) ∈ ps ∨ (k, i) ∈ ps) := by
  rw [coreOf, fold_tie_bit ps _ (List.length_replicate ..) hok]
  have e : g (List.replicate n 0) i = 0 := by
    by_cases hi : i < n <;> simp [g, List.getD, hi]
  rw [e, Nat.zero_testBit, Bool.false_or]
theorem coreOf_good {n : Nat} {ps : List (Nat × Nat)} (hok : ∀ p ∈ ps, TieOk n p) : Good n (coreOf n ps) := by
  refine ⟨coreOf_len n ps, fun i k h => ?_⟩
  rw [coreOf_bit hok] at h
  rw [coreOf_bit hok]
  have h' := of_decide_eq_true h
  refine ⟨?_, ?_, decide_eq_true h'.symm⟩
  · rcases h' with q | q
    · exact (hok _ q).2.1
    · exact (hok _ q).1
  · rcases h' with q | q
    · exact (hok _ q).2.2
    · exact (hok _ q).2.2.symm
/-- ties that are just those of a good core, in whatever order and however often, make it -/
theorem coreOf_eq {n : Nat} {c : Core} {ps : List (Nat × Nat)} (h : Good n c) (hok : ∀ p ∈ ps, TieOk n p) (h1 : ∀ p ∈ ps, (g c p.1).testBit p.2 = true) (h2 : ∀ i k, i < k → k < n → (g c i).testBit k = true → (i, k) ∈ ps ∨ (k, i) ∈ ps) : coreOf n ps = c := by
  refine (coreOf_good hok).ext h fun i k hik hk => ?_
  rw [coreOf_bit hok]
  cases hb : (g c i).testBit k with
  | true => exact decide_eq_true (h2 i k hik hk hb)
  | false =>
    apply decide_eq_false
    rintro (q | q)
    · have := h1 _ q
      rw [show (g c (i, k).1).testBit (i, k).2 = (g c i).testBit k from rfl, hb] at this
      cases this
    · have := h1 _ q
      rw [show (g c (k, i).1).testBit (k, i).2 = (g c k).testBit i from rfl, h.sym, hb] at this
      cases this
theorem ties_ok {n : Nat} {c : Core} (h : Good n c) : ∀ p ∈ ties c, TieOk n p := fun p hp => by
  have q := (mem_ties h.1).mp hp
  exact ⟨by omega, q.2.1, by omega⟩
theorem coreOf_ties {n : Nat} {c : Core} (h : Good n c) : coreOf n (ties c) = c :=
  coreOf_eq h (ties_ok h) (fun p hp => ((mem_ties h.1).mp hp).2.2) fun i k hik hk hb => .inl ((mem_ties h.1).mpr ⟨hik, hk, hb⟩)
end K81
end

section
namespace K81
/-! ### the number of good cores -/
def sig (n : Nat) (c : Core) : List Bool := (pairs n).map fun p => (g c p.1).testBit p.2
def bools : Nat → List (List Bool)
  | 0 => [[]]
  | k + 1 => (bools k).flatMap fun l => [false :: l, true :: l]
theorem bools_len : ∀ k, (bools k).length = 2 ^ k
  | 0 => rfl
  | k + 1 => by
    have h : ∀ L : List (List Bool), (L.flatMap fun l => [false :: l, true :: l]).length = 2 * L.length := by
      intro L
      induction L with
      | nil => rfl
      | cons x r ih => rw [List.flatMap_cons, List.length_append, ih, List.length_cons]; simp; omega
    rw [bools, h, bools_len k, Nat.pow_succ, Nat.mul_comm]
theorem mem_bools : ∀ (k : Nat) (l : List Bool), l.length = k → l ∈ bools k
  | 0, l, h => by
    have : l = [] := List.length_eq_zero_iff.mp h
    subst this
    exact List.mem_singleton.mpr rfl
  | k + 1, [], h => by cases h
  | k + 1, b :: l, h => by
    have q := mem_bools k l (by simpa using h)
    refine List.mem_flatMap.mpr ⟨l, q, ?_⟩
    cases b <;> simp
theorem pairs_len (n : Nat) (h : n ≤ 5) : (pairs n).length ≤ 10 := by
  have : ∀ m, m < 6 → (pairs m).length ≤ 10 := by decide
  exact this n (by omega)
theorem sig_inj {n : Nat} {c d : Core} (hc : Good n c) (hd : Good n d) (h : sig n c = sig n d) : c = d := by
  refine hc.ext hd fun i k hik hk => ?_
  exact List.map_inj_left.mp h (i, k) (mem_pairs.mpr ⟨hik, hk⟩)
theorem nodup_map_on {α β : Type} {f : α → β} : ∀ {l : List α}, (∀ x ∈ l, ∀ y ∈ l, f x = f y → x = y) → l.Nodup → (l.map f).Nodup
  | [], _, _ => by simp
  | x :: r, h, hn => by
    rw [List.nodup_cons] at hn
    rw [List.map_cons, List.nodup_cons]
    refine ⟨fun hm => ?_, nodup_map_on (fun a ha b hb => h a (List.mem_cons_of_mem _ ha) b (List.mem_cons_of_mem _ hb)) hn.2⟩
    obtain ⟨y, hy, e⟩ := List.mem_map.mp hm
    have := h y (List.mem_cons_of_mem _ hy) x (List.mem_cons_self ..) e
    subst this
    exact hn.1 hy
theorem good_few {n : Nat} (hn : n ≤ 5) {l : List Core} (h : ∀ c ∈ l, Good n c) (nd : l.Nodup) : l.length ≤ 1024 := by
  have h1 : (l.map (sig n)).Nodup := nodup_map_on (fun x hx y hy e => sig_inj (h x hx) (h y hy) e) nd
  have h2 : l.map (sig n) ⊆ bools (pairs n).length := by
    intro s hs
    obtain ⟨c, _, rfl⟩ := List.mem_map.mp hs
    exact mem_bools _ _ (by simp [sig])
  have h3 := h1.length_le_of_subset h2
  rw [List.length_map, bools_len] at h3
  exact Nat.le_trans h3 (Nat.pow_le_pow_right (by decide) (pairs_len n hn))
/-! ### what presses reach, by breadth; with each core the first of the shortest rows -/
abbrev Bfs := List (Core × List Nat)
def visit (S : Bfs) (c : Core) (r : List Nat) (p : Nat) : Bfs := if press c p ∈ S.map (·.1) then S else S ++ [(press c p, r ++ [p])]
def inner (S : Bfs) (c : Core) (r : List Nat) (j : Nat) : Bfs := (List.range j).foldl (fun T p => visit T c r p) S
theorem inner_succ (S : Bfs) (c : Core) (r : List Nat) (j : Nat) : inner S c r (j + 1) = visit (inner S c r j) c r j := by
  rw [inner, List.range_succ, List.foldl_append]; rfl
def hd (S : Bfs) (k : Nat) : Core × List Nat := S.getD k ([], [])
theorem hd_get {S : Bfs} {k : Nat} (h : k < S.length) : S[k]? = some (hd S k) := by
  rw [List.getElem?_eq_getElem h]; simp [hd, List.getD, h]
theorem hd_mem {S : Bfs} {k : Nat} (h : k < S.length) : hd S k ∈ S := List.mem_of_getElem? (hd_get h)
def stage (n : Nat) (c : Core) : Nat → Bfs
  | 0 => [(c, [])]
  | k + 1 => if k < (stage n c k).length then inner (stage n c k) (hd (stage n c k) k).1 (hd (stage n c k) k).2 n else stage n c k
def reach (n : Nat) (c : Core) : Bfs := stage n c 1024
theorem visit_pre (S : Bfs) (c : Core) (r : List Nat) (p : Nat) : S <+: visit S c r p := by
  unfold visit
  split
  · exact List.prefix_refl _
  · exact List.prefix_append _ _
theorem inner_pre (S : Bfs) (c : Core) (r : List Nat) : ∀ j, S <+: inner S c r j
  | 0 => List.prefix_refl _
  | j + 1 => by rw [inner_succ]; exact (inner_pre S c r j).trans (visit_pre _ _ _ _)
theorem inner_mono (S : Bfs) (c : Core) (r : List Nat) {i j : Nat} (h : i ≤ j) : inner S c r i <+: inner S c r j := by
  induction j with
  | zero => have : i = 0 := by omega
            subst this; exact List.prefix_refl _
  | succ j ih =>
    by_cases e : i = j + 1
    · subst e; exact List.prefix_refl _
    · rw [inner_succ]; exact (ih (by omega)).trans (visit_pre _ _ _ _)
theorem stage_step (n : Nat) (c : Core) (k : Nat) : stage n c k <+: stage n c (k + 1) := by
  rw [stage]
  split
  · exact inner_pre _ _ _ _
  · exact List.prefix_refl _
theorem stage_mono (n : Nat) (c : Core) {i j : Nat} (h : i ≤ j) : stage n c i <+: stage n c j := by
  induction j with
  | zero => have : i = 0 := by omega
            subst this; exact List.prefix_refl _
  | succ j ih =>
    by_cases e : i = j + 1
    · subst e; exact List.prefix_refl _
    · exact (ih (by omega)).trans (stage_step n c j)
theorem stage_go {n : Nat} {c : Core} {k : Nat} (h : k < (stage n c k).length) : stage n c (k + 1) = inner (stage n c k) (hd (stage n c k) k).1 (hd (stage n c k) k).2 n := by
  rw [stage, if_pos h]
theorem stage_stop {n : Nat} {c : Core} {k : Nat} (h : (stage n c k).length ≤ k) : ∀ m, k ≤ m → stage n c m = stage n c k := by
  intro m hm
  induction m with
  | zero => have : k = 0 := by omega
            subst this; rfl
  | succ m ih =>
    by_cases e : k = m + 1
    · subst e; rfl
    · have := ih (by omega)
      rw [stage, if_neg (by rw [this]; omega), this]
structure BOk (n : Nat) (S : Bfs) : Prop where
  nd : (S.map (·.1)).Nodup
  good : ∀ p ∈ S, Good n p.1
  row : ∀ p ∈ S, ∀ q ∈ p.2, q < n
  len : ∀ p ∈ S, p.2.length < S.length
theorem BOk.few {n : Nat} {S : Bfs} (hn : n ≤ 5) (h : BOk n S) : S.length ≤ 1024 := by
  have := good_few hn (l := S.map (·.1)) (by
    intro c hc
    obtain ⟨p, hp, rfl⟩ := List.mem_map.mp hc
    exact h.good p hp) h.nd
  simpa using this
theorem BOk.visit {n : Nat} {S : Bfs} (h : BOk n S) {c : Core} {r : List Nat} {p : Nat} (hm : (c, r) ∈ S) (hp : p < n) : BOk n (visit S c r p) := by
  unfold K81.visit
  split
  · exact h
  · rename_i hno
    have h3 := h.len _ hm
    refine ⟨?_, ?_, ?_, ?_⟩
    · rw [List.map_append, List.nodup_append]
      refine ⟨h.nd, by simp, fun a ha b hb => ?_⟩
      simp at hb
      rintro rfl
      rw [hb] at ha
      exact hno ha
    · intro q hq
      rcases List.mem_append.mp hq with hq | hq
      · exact h.good q hq
      · simp at hq; subst hq; exact press_good (h.good _ hm) hp
    · intro q hq
      rcases List.mem_append.mp hq with hq | hq
      · exact h.row q hq
      · simp at hq; subst hq
        intro x hx
        rcases List.mem_append.mp hx with hx | hx
        · exact h.row _ hm x hx
        · simp at hx; omega
    · intro q hq
      rw [List.length_append]
      rcases List.mem_append.mp hq with hq | hq
      · have := h.len q hq
        simp; omega
      · simp at hq; subst hq
        simp
        exact h3
theorem BOk.inner {n : Nat} {S : Bfs} (h : BOk n S) {c : Core} {r : List Nat} (hm : (c, r) ∈ S) : ∀ j, j ≤ n → BOk n (inner S c r j)
  | 0, _ => h
  | j + 1, hj => by
    rw [inner_succ]
    exact (BOk.inner h hm j (by omega)).visit ((inner_pre S c r j).subset hm) (by omega)
theorem stage_ok {n : Nat} {c : Core} (h : Good n c) : ∀ k, BOk n (stage n c k)
  | 0 => ⟨by simp [stage], by simp [stage]; exact h, by simp [stage], by simp [stage]⟩
  | k + 1 => by
    by_cases hk : k < (stage n c k).length
    · rw [stage_go hk]
      exact (stage_ok h k).inner (hd_mem hk) n (Nat.le_refl _)
    · rw [stage, if_neg hk]
      exact stage_ok h k
theorem reach_ok {n : Nat} {c : Core} (h : Good n c) : BOk n (reach n c) := stage_ok h 1024
theorem reach_end {n : Nat} {c : Core} {k : Nat} (hn : n ≤ 5) (h : Good n c) (hk : k ≤ 1024) (he : (stage n c k).length ≤ k) : stage n c k = reach n c := (stage_stop he 1024 hk).symm
theorem reach_pre {n : Nat} {c : Core} {k : Nat} (hk : k ≤ 1024) : stage n c k <+: reach n c := stage_mono n c hk
theorem reach_self (n : Nat) (c : Core) : (c, []) ∈ reach n c := (reach_pre (Nat.zero_le _)).subset (by simp [stage])
theorem key_one {S : Bfs} (nd : (S.map (·.1)).Nodup) {c : Core} {r r' : List Nat} (h : (c, r) ∈ S) (h' : (c, r') ∈ S) : r = r' := by
  induction S with
  | nil => cases h
  | cons p S ih =>
    rw [List.map_cons, List.nodup_cons] at nd
    rcases List.mem_cons.mp h with e | h
    · rcases List.mem_cons.mp h' with e' | h'
      · rw [← e] at e'; exact (Prod.mk.inj e').2.symm
      · exact absurd (List.mem_map.mpr ⟨_, h', by rw [← e]⟩) nd.1
    · rcases List.mem_cons.mp h' with e' | h'
      · exact absurd (List.mem_map.mpr ⟨_, h, by rw [← e']⟩) nd.1
      · exact ih nd.2 h h'
/-- the row of a core that is reached -/
def rowOf (S : Bfs) (c : Core) : List Nat := ((S.find? fun p => p.1 == c).map (·.2)).getD []
theorem rowOf_mem {S : Bfs} {c : Core} (h : c ∈ S.map (·.1)) : (c, rowOf S c) ∈ S := by
  unfold rowOf
  cases e : S.find? fun p => p.1 == c with
  | none =>
    obtain ⟨p, hp, rfl⟩ := List.mem_map.mp h
    have := List.find?_eq_none.mp e p hp
    simp at this
  | some p =>
    have h1 := List.find?_some e
    have h2 := List.mem_of_find?_eq_some e
    have e1 : p.1 = c := by simpa using h1
    obtain ⟨p1, p2⟩ := p
    simp only [Option.map_some, Option.getD_some]
    simp only at e1
    rw [← e1]
    exact h2
/-! ### orders -/
def ordStep (n : Nat) (o : List Nat) : List (List Nat) := ((List.range n).filter fun k => !o.contains k).map fun k => o ++ [k]
def ordK (n : Nat) : Nat → List (List Nat)
  | 0 => [[]]
  | j + 1 => (ordK n j).flatMap (ordStep n)
def orders (n : Nat) : List (List Nat) := ordK n n
structure IsOrd (n : Nat) (o : List Nat) : Prop where
  len : o.length = n
  lt : ∀ x ∈ o, x < n
  nd : o.Nodup
theorem ordK_ok (n : Nat) : ∀ j, ∀ o ∈ ordK n j, o.length = j ∧ (∀ x ∈ o, x < n) ∧ o.Nodup
  | 0, o, h => by
    simp [ordK] at h
    subst h
    simp
  | j + 1, o, h => by
    obtain ⟨p, hp, ho⟩ := List.mem_flatMap.mp h
    obtain ⟨k, hk, rfl⟩ := List.mem_map.mp ho
    rw [List.mem_filter] at hk
    obtain ⟨h1, h2, h3⟩ := ordK_ok n j p hp
    have hkn : k < n := List.mem_range.mp hk.1
    have hkp : k ∉ p := by
      have := hk.2
      simpa using this
    refine ⟨by simp [h1], ?_, ?_⟩
    · intro x hx
      rcases List.mem_append.mp hx with hx | hx
      · exact h2 x hx
      · simp at hx; omega
    · rw [List.nodup_append]
      refine ⟨h3, by simp, fun a ha b hb => ?_⟩
      simp at hb
      rintro rfl
      rw [hb] at ha
      exact hkp ha
theorem orders_ok {n : Nat} {o : List Nat} (h : o ∈ orders n) : IsOrd n o := by
  obtain ⟨h1, h2, h3⟩ := ordK_ok n n o h
  exact ⟨h1, h2, h3⟩
theorem ordStep_len (n : Nat) (o : List Nat) : (ordStep n o).length ≤ n := by
  rw [ordStep, List.length_map]
  have := List.length_filter_le (fun k => !o.contains k) (List.range n)
  simpa using this
theorem ordK_len (n : Nat) (hn : n ≤ 5) : ∀ j, j ≤ n → (ordK n j).length ≤ 5 ^ j
  | 0, _ => by simp [ordK]
  | j + 1, hj => by
    have ih := ordK_len n hn j (by omega)
    have h : ∀ L : List (List Nat), (L.flatMap (ordStep n)).length ≤ 5 * L.length := by
      intro L
      induction L with
      | nil => simp
      | cons x r ih =>
        rw [List.flatMap_cons, List.length_append, List.length_cons]
        have := ordStep_len n x
        omega
    have := h (ordK n j)
    rw [ordK, Nat.pow_succ]
    omega
theorem ordK_few {n j : Nat} (hn : n ≤ 5) (hj : j ≤ n) : (ordK n j).length ≤ 3125 := Nat.le_trans (ordK_len n hn j hj) (Nat.pow_le_pow_right (n := 5) (i := j) (j := 5) (by decide) (by omega))
theorem orders_pos {n : Nat} (hn : n ≤ 5) : ∃ r, orders n = List.range n :: r := by
  have : ∀ m, m < 6 → (orders m).head? = some (List.range m) := by decide +kernel
  have q := this n (by omega)
  cases e : orders n with
  | nil => rw [e] at q; cases q
  | cons x r =>
    rw [e] at q
    have : x = List.range n := by simpa using q
    exact ⟨r, by rw [this]⟩
theorem IsOrd.get_lt {n : Nat} {o : List Nat} (h : IsOrd n o) {k : Nat} (hk : k < n) : g o k < n := by
  have := g_get (c := o) (i := k) (by rw [h.len]; exact hk)
  exact h.lt _ (List.mem_of_getElem? this)
theorem IsOrd.inj {n : Nat} {o : List Nat} (h : IsOrd n o) {i j : Nat} (hi : i < n) (hj : j < n) (e : g o i = g o j) : i = j := by
  have h1 := g_get (c := o) (i := i) (by rw [h.len]; exact hi)
  have h2 := g_get (c := o) (i := j) (by rw [h.len]; exact hj)
  rw [e, ← h2] at h1
  exact (List.getElem?_inj (by rw [h.len]; exact hi) h.nd).mp h1
theorem IsOrd.sur {n : Nat} {o : List Nat} (h : IsOrd n o) {b : Nat} (hb : b < n) : ∃ j, j < n ∧ g o j = b := by
  have hm : b ∈ o := by
    by_cases hm : b ∈ o
    · exact hm
    · have h1 : (b :: o).Nodup := List.nodup_cons.mpr ⟨hm, h.nd⟩
      have h2 : (b :: o) ⊆ List.range n := by
        intro x hx
        rcases List.mem_cons.mp hx with rfl | hx
        · exact List.mem_range.mpr hb
        · exact List.mem_range.mpr (h.lt x hx)
      have h3 := h1.length_le_of_subset h2
      rw [List.length_cons, List.length_range, h.len] at h3
      omega
  obtain ⟨j, hj, e⟩ := List.mem_iff_getElem.mp hm
  refine ⟨j, by rw [← h.len]; exact hj, ?_⟩
  have := g_get (c := o) (i := j) hj
  rw [List.getElem?_eq_getElem hj] at this
  rw [← Option.some.inj this, e]
/-! ### moved cores -/
def mvJ (c : Core) (o : List Nat) (k : Nat) : Nat → Nat
  | 0 => 0
  | j + 1 => if (g c k).testBit j then mvJ c o k j ||| 2 ^ g o j else mvJ c o k j
def mvK (c : Core) (o : List Nat) (n : Nat) : Nat → Core
  | 0 => List.replicate n 0
  | k + 1 => (mvK c o n k).set (g o k) (mvJ c o k n)
def moved (n : Nat) (c : Core) (o : List Nat) : Core := mvK c o n n
theorem mvJ_bit (c : Core) (o : List Nat) (k b : Nat) : ∀ j, (mvJ c o k j).testBit b = true ↔ ∃ i, i < j ∧ (g c k).testBit i = true ∧ g o i = b
  | 0 => by simp [mvJ]
  | j + 1 => by
    have ih := mvJ_bit c o k b j
    rw [mvJ]
    split
    · rename_i hb
      rw [Nat.testBit_or, Nat.testBit_two_pow, Bool.or_eq_true, ih, decide_eq_true_eq]
      constructor
      · rintro (⟨i, h1, h2, h3⟩ | e)
        · exact ⟨i, by omega, h2, h3⟩
        · exact ⟨j, by omega, hb, e⟩
      · rintro ⟨i, h1, h2, h3⟩
        by_cases e : i = j
        · subst e; exact .inr h3
        · exact .inl ⟨i, by omega, h2, h3⟩
    · rename_i hb
      rw [ih]
      constructor
      · rintro ⟨i, h1, h2, h3⟩
        exact ⟨i, by omega, h2, h3⟩
      · rintro ⟨i, h1, h2, h3⟩
        by_cases e : i = j
        · subst e; exact absurd h2 hb
        · exact ⟨i, by omega, h2, h3⟩
theorem g_zero (n i : Nat) : g (List.replicate n 0) i = 0 := by
  by_cases hi : i < n <;> simp [g, List.getD, hi]
theorem mvK_len (c : Core) (o : List Nat) (n : Nat) : ∀ k, (mvK c o n k).length = n
  | 0 => by simp [mvK]
  | k + 1 => by rw [mvK, List.length_set, mvK_len c o n k]
theorem mvK_at {n : Nat} {o : List Nat} (ho : IsOrd n o) (c : Core) {i : Nat} (hi : i < n) : ∀ k, k ≤ n → g (mvK c o n k) (g o i) = if i < k then mvJ c o i n else 0
  | 0, _ => by
    rw [mvK, if_neg (by omega)]
    exact g_zero n _
  | k + 1, hk => by
    rw [mvK]
    by_cases e : i = k
    · subst e
      rw [g_set_self (by rw [mvK_len]; exact ho.get_lt hi), if_pos (by omega)]
    · rw [g_set_ne (fun q => e (ho.inj hi (by omega) q.symm)), mvK_at ho c hi k (by omega)]
      by_cases q : i < k
      · rw [if_pos q, if_pos (by omega)]
      · rw [if_neg q, if_neg (by omega)]
theorem moved_at {n : Nat} {o : List Nat} (ho : IsOrd n o) (c : Core) {i : Nat} (hi : i < n) : g (moved n c o) (g o i) = mvJ c o i n := by
  rw [moved, mvK_at ho c hi n (Nat.le_refl _), if_pos hi]
theorem moved_good {n : Nat} {o : List Nat} {c : Core} (ho : IsOrd n o) (h : Good n c) : Good n (moved n c o) := by
  refine ⟨mvK_len c o n n, fun a b hb => ?_⟩
  by_cases ha : a < n
  · obtain ⟨i, hi, rfl⟩ := ho.sur ha
    rw [moved_at ho c hi] at hb
    obtain ⟨j, hj, h1, rfl⟩ := (mvJ_bit c o i b n).mp hb
    have q := h.2 i j h1
    refine ⟨ho.get_lt hj, fun e => q.2.1 (ho.inj hi hj e), ?_⟩
    rw [moved_at ho c hj]
    exact (mvJ_bit c o j (g o i) n).mpr ⟨i, hi, q.2.2, rfl⟩
  · rw [g_out (by rw [moved, mvK_len]; omega), Nat.zero_testBit] at hb
    cases hb
theorem isOrd_range (n : Nat) : IsOrd n (List.range n) := ⟨List.length_range, fun _ h => List.mem_range.mp h, List.nodup_range⟩
theorem g_range {n i : Nat} (h : i < n) : g (List.range n) i = i := by simp [g, List.getD, h]
theorem moved_id {n : Nat} {c : Core} (h : Good n c) : moved n c (List.range n) = c := by
  refine (moved_good (isOrd_range n) h).ext h fun i k hik hk => ?_
  have hi : i < n := by omega
  have e : g (moved n c (List.range n)) i = mvJ c (List.range n) i n := by
    have := moved_at (isOrd_range n) c hi
    rwa [g_range hi] at this
  rw [e]
  cases hb : (g c i).testBit k with
  | true => exact (mvJ_bit _ _ _ _ _).mpr ⟨k, hk, hb, g_range hk⟩
  | false =>
    cases hq : (mvJ c (List.range n) i n).testBit k with
    | false => rfl
    | true =>
      obtain ⟨j, hj, h1, h2⟩ := (mvJ_bit _ _ _ _ _).mp hq
      rw [g_range hj] at h2
      subst h2
      rw [h1] at hb
      cases hb
/-! ### adding where the bit is not set -/
theorem add_bit {a i : Nat} (h : a.testBit i = false) : a + 2 ^ i = a ||| 2 ^ i := by
  have hw : ∃ w, a < 2 ^ w ∧ i < w := ⟨max a (i + 1), Nat.lt_of_lt_of_le Nat.lt_two_pow_self (Nat.pow_le_pow_right (by decide) (Nat.le_max_left _ _)), Nat.lt_of_lt_of_le (Nat.lt_succ_self i) (Nat.le_max_right _ _)⟩
  obtain ⟨w, ha, hi⟩ := hw
  have h2 : 2 ^ i < 2 ^ w := Nat.pow_lt_pow_right (by decide) hi
  have e := BitVec.add_eq_or_of_and_eq_zero (BitVec.ofNat (w + 1) a) (BitVec.ofNat (w + 1) (2 ^ i)) (by
    apply BitVec.eq_of_toNat_eq
    rw [BitVec.toNat_and, BitVec.toNat_ofNat, BitVec.toNat_ofNat]
    have ha' : a < 2 ^ (w + 1) := Nat.lt_of_lt_of_le ha (Nat.pow_le_pow_right (by decide) (by omega))
    have h2' : 2 ^ i < 2 ^ (w + 1) := Nat.lt_of_lt_of_le h2 (Nat.pow_le_pow_right (by decide) (by omega))
    rw [Nat.mod_eq_of_lt ha', Nat.mod_eq_of_lt h2']
    apply Nat.eq_of_testBit_eq
    intro j
    rw [Nat.testBit_and, Nat.testBit_two_pow]
    by_cases q : i = j
    · subst q; simp [h]
    · simp [q])
  have e2 := congrArg BitVec.toNat e
  rw [BitVec.toNat_add, BitVec.toNat_or, BitVec.toNat_ofNat, BitVec.toNat_ofNat] at e2
  have ha' : a < 2 ^ (w + 1) := Nat.lt_of_lt_of_le ha (Nat.pow_le_pow_right (by decide) (by omega))
  have h2' : 2 ^ i < 2 ^ (w + 1) := Nat.lt_of_lt_of_le h2 (Nat.pow_le_pow_right (by decide) (by omega))
  rw [Nat.mod_eq_of_lt ha', Nat.mod_eq_of_lt h2', Nat.mod_eq_of_lt (by rw [Nat.pow_succ]; omega)] at e2
  exact e2
theorem tie_add {c : Core} {p : Nat × Nat} (h1 : (g c p.1).testBit p.2 = false) (h2 : (g c p.2).testBit p.1 = false) (hne : p.1 ≠ p.2) :
    (c.set p.1 (g c p.1 + 2 ^ p.2)).set p.2 (g (c.set p.1 (g c p.1 + 2 ^ p.2)) p.2 + 2 ^ p.1) = tie c p := by
  have e1 : g c p.1 + 2 ^ p.2 = g c p.1 ||| 2 ^ p.2 := add_bit h1
  have e2 : g (c.set p.1 (g c p.1 ||| 2 ^ p.2)) p.2 + 2 ^ p.1 = g (c.set p.1 (g c p.1 ||| 2 ^ p.2)) p.2 ||| 2 ^ p.1 := by
    rw [g_set_ne hne]
    exact add_bit h2
  rw [e1, e2, tie]
theorem tie_good {n : Nat} {c : Core} {p : Nat × Nat} (h : Good n c) (hp : TieOk n p) : Good n (tie c p) := by
  refine ⟨by rw [tie_len, h.1], fun i k hb => ?_⟩
  rw [tie_bit (by rw [h.1]; exact hp.1) (by rw [h.1]; exact hp.2.1) hp.2.2, Bool.or_eq_true] at hb
  rw [tie_bit (by rw [h.1]; exact hp.1) (by rw [h.1]; exact hp.2.1) hp.2.2, Bool.or_eq_true]
  rcases hb with hb | hb
  · have q := h.2 i k hb
    exact ⟨q.1, q.2.1, .inl q.2.2⟩
  · rcases of_decide_eq_true hb with ⟨rfl, rfl⟩ | ⟨rfl, rfl⟩
    · exact ⟨hp.2.1, hp.2.2, .inr (decide_eq_true (.inr ⟨rfl, rfl⟩))⟩
    · exact ⟨hp.1, hp.2.2.symm, .inr (decide_eq_true (.inl ⟨rfl, rfl⟩))⟩
theorem good_zero (n : Nat) : Good n (List.replicate n 0) := by
  refine ⟨List.length_replicate, fun i k h => ?_⟩
  have e : g (List.replicate n 0) i = 0 := by
    by_cases hi : i < n <;> simp [g, List.getD, hi]
  rw [e, Nat.zero_testBit] at h
  cases h
/-- the same tie turned -/
def turn (c : Core) (p : Nat × Nat) : Core := (c.set p.1 (g c p.1 ^^^ 2 ^ p.2)).set p.2 (g (c.set p.1 (g c p.1 ^^^ 2 ^ p.2)) p.2 ^^^ 2 ^ p.1)
theorem turn_good {n : Nat} {c : Core} {p : Nat × Nat} (h : Good n c) (hp : TieOk n p) : Good n (turn c p) := by
  have h1 : p.1 < c.length := by rw [h.1]; exact hp.1
  have h2 : p.2 < c.length := by rw [h.1]; exact hp.2.1
  have bit : ∀ i k, (g (turn c p) i).testBit k = ((g c i).testBit k ^^ decide ((i = p.1 ∧ k = p.2) ∨ (i = p.2 ∧ k = p.1))) := by
    intro i k
    unfold turn
    by_cases e2 : i = p.2
    · subst e2
      rw [g_set_self (by simpa using h2), g_set_ne hp.2.2, Nat.testBit_xor, Nat.testBit_two_pow]
      congr 1
      apply decide_eq_decide.mpr
      constructor
      · intro q; exact .inr ⟨rfl, q.symm⟩
      · rintro (⟨q, _⟩ | ⟨_, q⟩)
        · exact absurd q.symm hp.2.2
        · exact q.symm
    · rw [g_set_ne (Ne.symm e2)]
      by_cases e1 : i = p.1
      · subst e1
        rw [g_set_self h1, Nat.testBit_xor, Nat.testBit_two_pow]
        congr 1
        apply decide_eq_decide.mpr
        constructor
        · intro q; exact .inl ⟨rfl, q.symm⟩
        · rintro (⟨_, q⟩ | ⟨q, _⟩)
          · exact q.symm
          · exact absurd q hp.2.2
      · rw [g_set_ne (Ne.symm e1)]
        have : decide ((i = p.1 ∧ k = p.2) ∨ (i = p.2 ∧ k = p.1)) = false := by
          apply decide_eq_false
          rintro (⟨q, _⟩ | ⟨q, _⟩)
          · exact e1 q
          · exact e2 q
        rw [this, Bool.xor_false]
  refine ⟨by simp [turn, h.1], fun i k hb => ?_⟩
  have hs : (g (turn c p) k).testBit i = true := by
    rw [bit, ← h.sym i k]
    rw [bit] at hb
    rw [← hb]
    congr 1
    apply decide_eq_decide.mpr
    constructor
    · rintro (⟨a, b⟩ | ⟨a, b⟩)
      · exact .inr ⟨b, a⟩
      · exact .inl ⟨b, a⟩
    · rintro (⟨a, b⟩ | ⟨a, b⟩)
      · exact .inr ⟨b, a⟩
      · exact .inl ⟨b, a⟩
  refine ⟨?_, ?_, hs⟩
  · by_cases hk : k < n
    · exact hk
    · rw [bit, h.high i k (by omega)] at hb
      have := of_decide_eq_true (by simpa using hb)
      rcases this with ⟨_, rfl⟩ | ⟨_, rfl⟩
      · exact absurd hp.2.1 hk
      · exact absurd hp.1 hk
  · rintro rfl
    rw [bit, h.diag] at hb
    have := of_decide_eq_true (by simpa using hb)
    rcases this with ⟨a, b⟩ | ⟨a, b⟩
    · exact hp.2.2 (a.symm.trans b)
    · exact hp.2.2 (b.symm.trans a)
/-! ### the law's own press, mask by mask -/
def prJ (c : Core) (a i : Nat) : Nat → Nat
  | 0 => g c i
  | k + 1 => if i ≠ k ∧ (g c a).testBit i = true ∧ (g c a).testBit k = true then prJ c a i k ^^^ 2 ^ k else prJ c a i k
theorem prJ_bit (c : Core) (a i b : Nat) : ∀ k, (prJ c a i k).testBit b = ((g c i).testBit b ^^ (decide (b < k ∧ i ≠ b ∧ (g c a).testBit i = true ∧ (g c a).testBit b = true)))
  | 0 => by simp [prJ]
  | k + 1 => by
    rw [prJ]
    split
    · rename_i h
      rw [Nat.testBit_xor, prJ_bit c a i b k, Nat.testBit_two_pow, Bool.xor_assoc]
      congr 1
      by_cases e : b = k
      · subst e
        simp [h.1, h.2]
      · rw [decide_eq_false (show ¬ k = b from fun q => e q.symm), Bool.xor_false]
        apply decide_eq_decide.mpr
        constructor
        · rintro ⟨q, r⟩; exact ⟨by omega, r⟩
        · rintro ⟨q, r⟩; exact ⟨by omega, r⟩
    · rename_i h
      rw [prJ_bit c a i b k]
      congr 1
      apply decide_eq_decide.mpr
      constructor
      · rintro ⟨q, r⟩; exact ⟨by omega, r⟩
      · rintro ⟨q, r⟩
        by_cases e : b = k
        · subst e; exact absurd r h
        · exact ⟨by omega, r⟩
theorem prJ_eq {n : Nat} {c : Core} (h : Good n c) {a i : Nat} (ha : a < n) : prJ c a i n = g (press c a) i := by
  apply Nat.eq_of_testBit_eq
  intro b
  rw [prJ_bit, press_bit h ha]
  congr 1
  by_cases hb : b < n
  · cases h1 : (g c a).testBit i <;> cases h2 : (g c a).testBit b <;> by_cases e : i = b <;> simp [h1, h2, e, hb]
  · rw [h.high a b (by omega)]
    simp
end K81
namespace K81
/-! ### the ties row by row, as a double loop finds them -/
def pairTo (i j : Nat) : List (Nat × Nat) := (List.range j).map fun t => (i, i + 1 + t)
def pairsK (n : Nat) : Nat → List (Nat × Nat)
  | 0 => []
  | i + 1 => pairsK n i ++ pairTo i (n - (i + 1))
theorem pairTo_succ (i j : Nat) : pairTo i (j + 1) = pairTo i j ++ [(i, i + 1 + j)] := by
  rw [pairTo, List.range_succ, List.map_append]; rfl
theorem pairsK_eq (n : Nat) : ∀ i, pairsK n i = (List.range i).flatMap fun i => (List.range (n - (i + 1))).map fun j => (i, i + 1 + j)
  | 0 => rfl
  | i + 1 => by rw [pairsK, pairsK_eq n i, List.range_succ, List.flatMap_append]; simp [pairTo]
theorem pairs_eq (n : Nat) : pairs n = pairsK n n := (pairsK_eq n n).symm
def tieB (c : Core) (p : Nat × Nat) : Bool := (g c p.1).testBit p.2
def tieTo (c : Core) (i j : Nat) : List (Nat × Nat) := (pairTo i j).filter (tieB c)
def tiesK (c : Core) (i : Nat) : List (Nat × Nat) := (pairsK c.length i).filter (tieB c)
theorem tieTo_yes {c : Core} {i j : Nat} (h : (g c i).testBit (i + 1 + j) = true) : tieTo c i (j + 1) = tieTo c i j ++ [(i, i + 1 + j)] := by
  rw [tieTo, pairTo_succ, List.filter_append]
  simp [tieTo, tieB, h]
theorem tieTo_no {c : Core} {i j : Nat} (h : ¬ (g c i).testBit (i + 1 + j) = true) : tieTo c i (j + 1) = tieTo c i j := by
  rw [tieTo, pairTo_succ, List.filter_append]
  simp [tieTo, tieB, h]
theorem tiesK_succ (c : Core) (i : Nat) : tiesK c (i + 1) = tiesK c i ++ tieTo c i (c.length - (i + 1)) := by
  rw [tiesK, pairsK, List.filter_append]; rfl
theorem ties_eq (c : Core) : ties c = tiesK c c.length := by rw [ties, pairs_eq]; rfl
theorem pairTo_len (i j : Nat) : (pairTo i j).length = j := by simp [pairTo]
theorem pairsK_len (n : Nat) : ∀ i, (pairsK n i).length ≤ i * n
  | 0 => by simp [pairsK]
  | i + 1 => by
    rw [pairsK, List.length_append, pairTo_len, Nat.succ_mul]
    have := pairsK_len n i
    omega
theorem tiesK_len (c : Core) (i : Nat) : (tiesK c i).length ≤ i * c.length := Nat.le_trans (List.length_filter_le ..) (pairsK_len _ _)
theorem tieTo_len (c : Core) (i j : Nat) : (tieTo c i j).length ≤ j := by
  have := List.length_filter_le (tieB c) (pairTo i j)
  rw [pairTo_len] at this
  exact this
end K81

namespace K81
/-! ### orders, item by item -/
def ordTo (o : List Nat) (j : Nat) : List (List Nat) := ((List.range j).filter fun k => !o.contains k).map fun k => o ++ [k]
theorem ordTo_all (n : Nat) (o : List Nat) : ordTo o n = ordStep n o := rfl
theorem ordTo_yes {o : List Nat} {j : Nat} (h : ¬ j ∈ o) : ordTo o (j + 1) = ordTo o j ++ [o ++ [j]] := by
  rw [ordTo, List.range_succ, List.filter_append]
  simp [ordTo, h]
theorem ordTo_no {o : List Nat} {j : Nat} (h : j ∈ o) : ordTo o (j + 1) = ordTo o j := by
  rw [ordTo, List.range_succ, List.filter_append]
  simp [ordTo, h]
theorem ordTo_len (o : List Nat) (j : Nat) : (ordTo o j).length ≤ j := by
  rw [ordTo, List.length_map]
  have := List.length_filter_le (fun k => !o.contains k) (List.range j)
  simpa using this
def ordsTo (n : Nat) (L : List (List Nat)) (i : Nat) : List (List Nat) := (L.take i).flatMap (ordStep n)
theorem ordsTo_succ {n : Nat} {L : List (List Nat)} {i : Nat} {o : List Nat} (h : L[i]? = some o) : ordsTo n L (i + 1) = ordsTo n L i ++ ordTo o n := by
  rw [ordsTo, List.take_add_one, h, List.flatMap_append]
  simp [ordsTo, ordTo_all]
theorem ordsTo_len (n : Nat) (L : List (List Nat)) : ∀ i, (ordsTo n L i).length ≤ i * n
  | 0 => by simp [ordsTo]
  | i + 1 => by
    cases h : L[i]? with
    | none =>
      have := ordsTo_len n L i
      have e : ordsTo n L (i + 1) = ordsTo n L i := by rw [ordsTo, List.take_add_one, h]; simp [ordsTo]
      rw [e, Nat.succ_mul]; omega
    | some o =>
      have h1 := ordsTo_len n L i
      have h2 := ordTo_len o n
      rw [ordsTo_succ h, List.length_append, Nat.succ_mul]; omega
theorem ordsTo_all (n : Nat) (L : List (List Nat)) : ordsTo n L L.length = L.flatMap (ordStep n) := by rw [ordsTo, List.take_of_length_le (Nat.le_refl _)]
end K81
namespace K81
theorem coreOf_take {n : Nat} {ps : List (Nat × Nat)} {t : Nat} {p : Nat × Nat} (h : ps[t]? = some p) : coreOf n (ps.take (t + 1)) = tie (coreOf n (ps.take t)) p := by
  rw [coreOf, List.take_add_one, h, List.foldl_append]
  rfl
theorem nd_ne {α : Type} {ss : List α} (nd : ss.Nodup) {i k : Nat} {x y : α} (hi : ss[i]? = some x) (hk : ss[k]? = some y) (h : i ≠ k) : x ≠ y := by
  rintro rfl
  exact h ((List.getElem?_inj (List.getElem?_eq_some_iff.mp hi).1 nd).mp (hi.trans hk.symm))
end K81
end

section
namespace PySem
set_option maxHeartbeats 1000000 in
theorem k_enum_newB {v : Value} {o : Obj} {H : Heap → Prop} (B : Begins v o H) :
    Meets (Builtin.«enumerate.__new__» ⟨[.type "enumerate", v], []⟩) (fun _ R s => H s.heap ∧
      R (.ok (.ret (.ref (s.heap.push o).objs.size))) { s with heap := (s.heap.push o).push { cls := .type "enumerate", data := .fields #[.none, .bool false, .ref s.heap.objs.size, rawInt 0, .none, .none] } }) :=
  .of_wp fun prog w A R s h => by
    obtain ⟨hp, g, d, tk, os⟩ := s; obtain ⟨h1, h⟩ := h
    have hsub := sub_enumerate
    have q1 : ∀ {A' : Around} {E : Value → Shared → Prop} {Q : Value → Shared → Prop}, Q (.ref hp.objs.size) ⟨hp.push o, g, d, tk, os⟩ → wpAny (model prog w) A' (pyIter v) Q E ⟨hp, g, d, tk, os⟩ :=
      fun q => B.iter prog w _ _ ⟨hp, g, d, tk, os⟩ _ h1 q
    wp_walk using q1
    refine wpAny_stack_any fun st => wpAny_pure ?_
    split
    · rename_i c _ _ _ _ _
      cases (c == Value.type "enumerate")
      · wp_walk using q1
        exact ⟨_, rfl, h⟩
      · wp_walk using q1
        exact ⟨_, rfl, h⟩
    · wp_walk using q1
      exact ⟨_, rfl, h⟩
section
variable {prog : Program} {w : World} {A : Around} {E : Value → Shared → Prop} {s : Shared}
theorem k_enum_begins {v : Value} {o : Obj} {H : Heap → Prop} {Q : Value → Shared → Prop} (B : Begins v o H) (h1 : H s.heap)
    (h : ∀ h', IsEnum h' (s.heap.objs.size + 1) s.heap.objs.size 0 .none → h'.get? s.heap.objs.size = some o → h'.objs.size = s.heap.objs.size + 2 →
      (∀ b o, s.heap.get? b = some o → h'.get? b = some o) → Q (.ref (s.heap.objs.size + 1)) { s with heap := h' }) :
    wpAny (model prog w) A (call (.type "enumerate") [v]) Q E s := by
  refine callType_new F.called_enumerate (by decide) (F.typeCall_enumerate_1 _) (F.newCall_enumerate_1 _) (fun obj => F.args_object_init_2 obj _) F.entry_enumerate_new
    (k_enum_newB B) ⟨h1, ?_⟩
  have hz : (s.heap.push o).objs.size = s.heap.objs.size + 1 := Heap.size_push ..
  show _ ∧ _
  rw [hz]
  have he : IsEnum ((s.heap.push o).push { cls := .type "enumerate", data := .fields #[.none, .bool false, .ref s.heap.objs.size, rawInt 0, .none, .none] }) (s.heap.objs.size + 1) s.heap.objs.size 0 .none := by
    have := Heap.get?_push_size (s.heap.push o) (o := { cls := .type "enumerate", data := .fields #[.none, .bool false, .ref s.heap.objs.size, rawInt 0, .none, .none] }) rfl
    rw [hz] at this; exact this
  refine ⟨⟨_, he, rfl⟩, h _ he (Heap.get?_push_of_some _ (Heap.get?_push_size _ B.free)) (by rw [Heap.size_push, hz]) fun b o x => Heap.get?_push_of_some _ (Heap.get?_push_of_some _ x)⟩
end
end PySem
namespace L2
open PySem PySem.Spec PyProof.Rows
/-! ### enumerate over a tuple -/
def IteT (K : PySem.W.Frag) (a : Addr) : It :=
  ⟨fun i H => ∃ xs x, SqT K H a xs ∧ xs[i]? = some x,
    fun i H v H' => ∃ T x, v = .ref T ∧ H T = none ∧ H' = upd H T (.tup [.int (i : Nat), x]) ∧ ∀ xs, SqT K H a xs → xs[i]? = some x,
    fun i H => ∃ xs, SqT K H a xs ∧ xs.length = i⟩
theorem turn_enumT {P : Program} {w : World} {K : PySem.W.Frag} {elts : List Expr} {kk : Nat} {tpos : Pos} (a e it : Addr) :
    Turn P w K (.Tuple elts kk tpos) (IteT K a) [e, it] e (fun i h => (∃ old, IsEnum h e it ((i : Nat) : Int) old) ∧ h.IsTupleIter it a i ∧ e ≠ it) where
  mem := by simp
  obj := fun i h st b hb => by
    obtain ⟨⟨old, he⟩, ⟨o, ho, hc, hd⟩, _⟩ := st
    have e' : b = e ∨ b = it := by simpa using hb
    rcases e' with z | z
    · rw [z]; exact ⟨_, he, fun v q => nomatch q⟩
    · rw [z]; exact ⟨o, ho, fun v q => by rw [hd] at q; cases q⟩
  keep := fun i h h' st k => let ⟨⟨old, he⟩, hi, hne⟩ := st; ⟨⟨old, k e (by simp) _ he⟩, hi.at fun o q => k it (by simp) o q, hne⟩
  item := by
    intro X hP hw hK hc i pins s σ H E I hf st hg
    subst hP hw hK
    obtain ⟨⟨old, he⟩, hit, hne⟩ := st
    obtain ⟨xs, x, hq, hx⟩ := hg
    obtain ⟨its, rv, p, hz⟩ := I.tuple hq
    obtain ⟨u, hu, ru⟩ := rv.get hx
    have hel : e < s.heap.objs.size := Heap.lt_size he
    have hil : it < s.heap.objs.size := by obtain ⟨_, q, _⟩ := hit; exact Heap.lt_size q
    have hea : e ≠ a := by
      rintro rfl
      obtain ⟨o, h1, h2, _⟩ := p
      rw [show s.heap.get? e = some _ from he] at h1
      cases h1
      exact absurd (Value.type.inj h2) (by decide)
    have hia : a ≠ it := by
      rintro rfl
      obtain ⟨o, h1, h2, _⟩ := p
      obtain ⟨o', h1', h2', _⟩ := hit
      rw [h1] at h1'
      cases h1'
      rw [h2] at h2'
      exact absurd (Value.type.inj h2') (by decide)
    have D := Draws.tuple (prog := X.prog) (w := X.w) (A := X.A.in1) (I.ok.hd hc) it a hia its.toArray
    have hin : i < its.toArray.size := by
      have := (List.getElem?_eq_some_iff.mp hu).1
      simpa using this
    refine wpAny_pyNext_enum_itemD D he ⟨hit, p⟩ hin hne (by simp [hne, hea]) fun y h' tk hy ho hit' hT hsz hk => ?_
    have ey : y = u := by
      have h1 : its.toArray[i]? = some u := by simpa using hu
      rw [hy] at h1
      exact Option.some.inj h1
    subst ey
    refine ⟨_, rfl, wpAny_letOwnedTupleGo_enum (s := { s with heap := h', toks := tk + 1 }) ho fun h'' he' sb => ?_⟩
    have hT2 : h''.get? s.heap.objs.size = some { cls := .type "tuple", data := .seq #[.int i tk, y] } := (sb.2 _ (Nat.ne_of_gt hel)).trans hT
    have new : ObjOk X.prog X.w (upd H s.heap.objs.size (.tup [.int (i : Nat), x])) h'' s.heap.objs.size (.tup [.int (i : Nat), x]) :=
      ⟨by show 2 ≤ sizeLine; decide, [.int i tk, y], .cons ⟨_, rfl⟩ (.cons ru .nil), ⟨_, hT2, rfl, _, rfl⟩⟩
    have I1 : Inv X pins σ (upd H s.heap.objs.size (.tup [.int (i : Nat), x])) { s with heap := h'', toks := tk + 1 } :=
      I.turnedNew (ch := [e, it]) (fun b ob hb q => (sb.2 b (fun z => hb (by simp [z]))).trans (hk b ob (fun z => hb (by simp [z])) (fun z => hb (by simp [z])) q)) hf (Nat.le_refl _) new
    refine ⟨.ref s.heap.objs.size, _, I1, rfl, ⟨_, x, rfl, I.hok.fresh (Nat.le_refl _), rfl, fun ys hy => by rw [I.tuple_inj hy hq]; exact hx⟩, ⟨⟨y, ?_⟩, hit'.1.at fun o q => (sb.2 it (Ne.symm hne)).trans q, hne⟩, fun b hb => ?_⟩
    · have e1 : ((i + 1 : Nat) : Int) = (i : Int) + 1 := by omega
      rw [e1]; exact he'
    · have hb' : b < s.heap.objs.size := by
        have e' : b = e ∨ b = it := by simpa using hb
        rcases e' with z | z
        · rw [z]; exact hel
        · rw [z]; exact hil
      rw [upd_ne (Nat.ne_of_lt hb')]
      exact (hf b hb).1
  done := by
    intro X hP hw hK hc i pins s σ H E I hf st hg
    subst hP hw hK
    obtain ⟨⟨old, he⟩, hit, hne⟩ := st
    obtain ⟨xs, hq, hx⟩ := hg
    obtain ⟨its, rv, p, hz⟩ := I.tuple hq
    obtain ⟨f0, f1, f2, f3, f4, f5⟩ := hf it (by simp)
    have hl := rv.length
    have hia : a ≠ it := by
      rintro rfl
      obtain ⟨o, h1, h2, _⟩ := p
      obtain ⟨o', h1', h2', _⟩ := hit
      rw [h1] at h1'
      cases h1'
      rw [h2] at h2'
      exact absurd (Value.type.inj h2') (by decide)
    have D := Draws.tuple (prog := X.prog) (w := X.w) (A := X.A.in1) (I.ok.hd hc) it a hia its.toArray
    have en : i = its.toArray.size := by
      have : its.toArray.size = its.length := by simp
      omega
    subst en
    exact wpAny_pyNext_enum_endD D he ⟨hit, p⟩ fun h' eb => ⟨rfl, I.turned (t' := s.toks) (fun b o hb q => eb b o hb q) f0 f1 f3 f4 f5⟩
  self := fun A i s Q E st h => let ⟨⟨_, he⟩, _⟩ := st; wpAny_pyIter_enum he h
def iEnumT (K : PySem.W.Frag) (ta : TA) : TI := fun σ H R => ta σ H fun vs H1 => ∃ a, vs = [.ref a] ∧ (∃ xs, SqT K H1 a xs) ∧ R (IteT K a) H1
theorem pi_enumT {X : Cx} {e : Expr} {ta : TA} {p pos tpos : Pos} {elts : List Expr} {kk : Nat} (hg : Gl X "enumerate") (hm : X.mg "enumerate" = none) (ha : PA X [e] ta) (hs : starEach [e] X.env = [(false, eval e X.env)] := by rfl) :
    PI X (.Tuple elts kk tpos) (.Call (.Name "enumerate" p) [e] [] pos) (iEnumT X.K ta) := by
  refine ⟨fun pins s σ H R I h => ?_⟩
  refine Call_ (ld_blt I hg hm boot_enumerate (PyProof.Rows.callWith_type1 (thn (ha.run pos pins s σ H _ I h) fun us s1 ⟨vs, H1, I1, r1, q1⟩ => ?_) hs rfl))
  obtain ⟨a, ex, ⟨xs, hq⟩, q⟩ := q1
  subst ex
  cases r1 with
  | cons r rr =>
    cases rr
    cases r
    obtain ⟨its, rv, p', hz⟩ := I1.tuple hq
    refine k_enum_begins (begins_tuple a its.toArray) p' fun h' he hit hsz hk => wpAny_pyIter_enum he ?_
    have I2 : Inv X pins σ H1 { s1 with heap := h' } := I1.kept (t' := s1.toks) hk
    refine ⟨s1.heap.objs.size + 1, [s1.heap.objs.size + 1, s1.heap.objs.size], _, _, H1, rfl, I2, turn_enumT a (s1.heap.objs.size + 1) s1.heap.objs.size, ⟨⟨.none, he⟩, ⟨_, hit, rfl, rfl⟩, Nat.succ_ne_self _⟩, fun b hb => ?_, q⟩
    have e' : b = s1.heap.objs.size + 1 ∨ b = s1.heap.objs.size := by simpa using hb
    have hle : s1.heap.objs.size ≤ b := by
      rcases e' with z | z
      · rw [z]; exact Nat.le_add_right _ _
      · rw [z]; exact Nat.le_refl _
    exact I1.fpOk hle (I1.hok.fresh hle)
/-- a loop or a comprehension over it -/
theorem walk_enumT {K : PySem.W.Frag} {a : Addr} {xs : List V} : Walk (IteT K a) xs.length (fun H => SqT K H a xs) (fun i H v H' => ∃ T x, v = .ref T ∧ H T = none ∧ H' = upd H T (.tup [.int (i : Nat), x]) ∧ xs[i]? = some x) :=
  ⟨fun i _ hi q => ⟨xs, xs[i], q, by simp [hi]⟩, fun _ q => ⟨xs, q, rfl⟩, fun _ _ _ _ _ q y => by
    obtain ⟨T, x, e, n, e2, hx⟩ := y
    exact ⟨T, x, e, n, e2, hx xs q⟩⟩
/-! ### a target that unpacks a tuple or a list -/
def gAny (K : PySem.W.Frag) (n : Nat) (t : TGs) : TG := fun v σ H Q => ∃ a xs, v = .ref a ∧ (SqT K H a xs ∨ SqL K H a xs) ∧ xs.length = n ∧ t xs σ H Q
theorem pg_any {X : Cx} {es : List Expr} {t : TGs} {k : Nat} {tpos : Pos} {n : Nat} (h1 : PG X (.Tuple es k tpos) (gTup X.K n t)) (h2 : PG X (.Tuple es k tpos) (gUnl X.K n t)) : PG X (.Tuple es k tpos) (gAny X.K n t) := by
  refine ⟨fun pins s σ H x u Q I r h => ?_⟩
  obtain ⟨a, xs, e, hq, hl, q⟩ := h
  rcases hq with hq | hq
  · exact h1.run pins s σ H x u Q I r ⟨a, xs, e, hq, hl, q⟩
  · exact h2.run pins s σ H x u Q I r ⟨a, xs, e, hq, hl, q⟩
end L2

namespace L2
open PySem PySem.Spec PyProof.Rows
section
variable {X : Cx} {CX : CXT} {k : Nat} {f C : Addr} {fd : FuncData} {ps ks : List Str} {sp : Sp} {E : XK}
/-! ### a call by keywords only -/
theorem pe_callK0 {x : Str} {p pos : Pos} {kws : List Keyword} {tk : TA} {g : List Value → List Value → List Value} {gV : List V → List V → List V}
    (F : FnOk X.prog X.w X.K X.mg X.base CX k f fd ps sp) (hr : Room k X.A) (hg : Gl X x) (hm : X.mg x = some (.ref f)) (hk : PySem.W.keepIn X.K (.ref f) = true) (hb : KBinds X.K fd ps ks g gV) (hx : Passes CX X E) (hkw : PK X kws tk)
    (hall : (backToKw pos (keywordEach kws X.env)).all (·.1.isSome) = true := by rfl) (hks : (backToKw pos (keywordEach kws X.env)).filterMap (·.1) = ks := by rfl) (hdb : (x == ("__debug__" : Str)) = false := by decide)
    (hpl : ((backTo pos (starEach [] X.env)).any (·.1) || (backToKw pos (keywordEach kws X.env)).any (·.1.isNone)) = false := by rfl) :
    PE X (.Call (.Name x p) [] kws pos) (tCallK sp gV E tNil tk) := by
  constructor
  intro pins s σ H Q I h
  apply wpAny_Call_Name_kw
  refine ld_glob I hg hm ?_ hdb
  refine PySem.W.callWith_KW0 (h₀ := X.base) I.ok.mod.kin hk hall ?_ hpl
  refine thn (hkw.run pos pins s σ H _ I h) ?_
  rintro ws s2 ⟨zs, H2, I2, rz, q2⟩
  refine ⟨I2.kIn, ?_⟩
  rw [hks]
  exact run_fnk (us := []) (vs := []) F hr hb hx I2 .nil rz q2
/-! ### len(o), o an instance whose class says __len__ -/
def rLenO (C : Addr) (sp : Sp) : List V → Hp → VK → Prop := fun xs H Q => ∃ a dx fs, xs = [V.ref a] ∧ H a = some (.ins C dx fs) ∧ sp [.ref a] H (fun z H' => ∃ n : Nat, z = .int (n : Int) ∧ n < 2 ^ 62 ∧ Q z H') (fun _ _ _ => False)
theorem call_lenO (hs : PySem.W.findIn X.K (.ref C) "__len__" = some (some (.ref f))) (hf : PySem.W.isFn X.K (.ref f) = true) (F : FnOk X.prog X.w X.K X.mg X.base CX k f fd ps sp) (hb : Binds X.K fd ps [])
    (hr : Room (k + 1) X.A) (hx : Passes CX X (fun _ _ _ => False)) : CallR X (.builtin "len") (rLenO C sp) := by
  intro pins s σ H xs us Q I r h
  obtain ⟨a, dx, fs, rfl, ha, q⟩ := h
  obtain ⟨u, rfl, ru⟩ := r.one
  cases (show u = Value.ref a from ru)
  obtain ⟨mA, O, _⟩ := ins_get I.hok ha
  obtain ⟨od, J, _⟩ := O.look
  obtain ⟨m, hF⟩ := I.fr
  have hl : ([Value.ref a] ++ ([] : List Value)).length = ps.length := F.len _ _ _ _ q
  refine PySem.W.len_K hF I.ok.mod.kin J hs hf (wpAny_mono (wpAny_call (codeAny_mono (F.run X.A.in1 X.stack s H ⟨[Value.ref a], []⟩ [Value.ref a] [V.ref a] _ _ hr.in1 I.env0.in1 (hb s [.ref a] I.kIn hl) (.cons rfl .nil) q) fun r s' hq => ?_)) (Q := fun v s' => EP X pins σ (fun z H' => ∃ n : Nat, z = .int (n : Int) ∧ n < 2 ^ 62 ∧ Q z H') v s') (fun w s' z => ?_) fun _ _ x => x)
  · cases r with
    | error e => exact hx pins σ H s e s' I hq
    | ok fl =>
      cases fl with
      | ret u => exact I.after hq
      | next => exact False.elim hq
      | brk => exact False.elim hq
      | cont => exact False.elim hq
  · obtain ⟨z', H', I', rz, n, ez, hn, qz⟩ := z
    subst ez
    obtain ⟨t, e⟩ := (show ∃ t, w = Value.int (n : Int) t from rz)
    subst e
    refine ⟨⟨by omega, by omega⟩, ?_⟩
    exact ⟨.int (n : Int), H', I'.tok _, ⟨_, rfl⟩, qz⟩
/-! ### {t: v}, t a tuple -/
theorem troom {P : Program} {w : World} {A : Around} (hu : A.units + 1 < cLine) : (tupleKind (mixKind P w)).room A := Nat.lt_of_succ_lt hu
def tDisp1T (tk tv : TE) : TE := fun σ H Q => ∀ p, H p = none → tk σ (upd H p (.dT [])) fun x H1 => tv σ H1 fun y H2 => H2 p = some (.dT []) ∧ ∃ (b : Addr) (ks : List Key), x = .ref b ∧ H2 b = some (.tup (ks.map kV)) ∧ Q (.ref p) (upd H2 p (.dT [(ks, y)]))
theorem pe_disp1T {ke ve : Expr} {pos : Pos} {tk tv : TE} (hu : X.A.units + 1 < cLine) (hk : PE X ke tk) (hv : PE X ve tv) : PE X (.Dict [some ke] [ve] pos) (tDisp1T tk tv) := by
  refine ⟨fun pins s σ H Q I q => ?_⟩
  have hn := I.hok.fresh (Nat.le_refl s.heap.objs.size)
  have I1 := I.laid (a := s.heap.objs.size) (o := .dT []) (h' := s.heap.push { cls := .type "dict", data := .dict #[] }) (t' := s.toks) (fun _ _ q => Heap.get?_push_of_some _ q) (Nat.le_refl _) (dt_empty s.heap I.big)
  have hz := zip_pairTrees [some ke] [ve] X.env pos rfl rfl
  rw [arm_eval_Dict, hz, dictDisplay_pairs _ (by intro e; cases e) (by show 1 < 17; decide)]
  refine wpAny_bind (wpAny_standAt (wpAny_bind (wpAny_subDictH (knd := tupleKind (mixKind X.prog X.w)) (Q := fun d s' => wpAny (model X.prog X.w) X.A (pure (Value.ref d)) (EP X pins σ Q) X.xe s') (troom hu) (by show 1 ≤ 15; decide) ?_)))
  refine pairTrees_cons_walk (thn (hk.run pins _ σ _ _ I1 (q _ hn)) fun u s1 ⟨x, H1, I1', rx, q1⟩ => thn (hv.run pins s1 σ H1 _ I1' q1) fun w2 s2 ⟨y, H2, I2, ry, e, b, ks, ex, eb, q2⟩ => pairTrees_nil_walk ?_)
  subst ex
  cases (show u = Value.ref b from rx)
  obtain ⟨z, hd, xs0, r0, dd⟩ := dt_of I2.hok e
  cases r0
  refine ⟨[(ks, b, w2)], ⟨rfl, rfl, key_of I2.hok eb, True.intro⟩, dd, fun h' tk dd' hs => wpAny_pure ⟨.ref s.heap.objs.size, _, ?_, rfl, q2⟩⟩
  obtain ⟨o, es, ep, hq, h2, h3, h4, _, h5⟩ := dd'
  refine d_write I2 (by rw [e]; exact True.intro) hs ⟨o, hq⟩ ⟨by show 1 ≤ sizeLine; decide, hd, [(ks, b, w2)], .cons ⟨rfl, ?_, ry⟩ .nil, o, es, ep, hq, h2, h3, h4, h5⟩
  rw [upd_ne (ne_of eb e (fun z => nomatch z))]
  exact eb
end
end L2

namespace L2
open PySem PySem.Spec PyProof.Rows
/-! ### {t: v for .. in ..}, the keys tuples -/
theorem dT_dictSet {X : Cx} {pins : List (Addr × Obj)} {σ : St} {H : Hp} {s : Shared} {E : Value → Shared → Prop} {D b : Addr} {kvs : List (List Key × V)} {k : List Key} {v : V} {u r : Value} {Q : Unit → Shared → Prop} (hu : X.A.units + 1 < cLine)
    (I : Inv X pins σ H s) (hD : H D = some (.dT kvs)) (hz : kvs.length < sizeLine) (eb : H b = some (.tup (k.map kV))) (ry : RelV (.ref b) u) (rv : RelV v r)
    (h : ∀ s', Inv X pins σ (upd H D (.dT (putK kvs k v))) s' → Q () s') : wpAny (model X.prog X.w) X.A (dictSet D u r) Q E s := by
  cases (show u = Value.ref b from ry)
  obtain ⟨z, hd, xs, rel, dd⟩ := dt_of I.hok hD
  have hxs : xs.length ≤ sizeLine := by rw [← Paired.length rel]; exact z
  have hl : (putK kvs k v).length ≤ sizeLine := by have := length_putK kvs k v; omega
  refine wpAny_dictSet_heap (hsz := hxs) (troom hu) (key_of I.hok eb) dd fun h' dd' hs => h _ ?_
  obtain ⟨q, es, ep, hq, h2, h3, h4, _, h5⟩ := dd'
  refine d_write I (by rw [hD]; exact True.intro) hs ⟨q, hq⟩ ⟨hl, hd, _, (rel.put k eb rv).keeps fun c ys ec => ?_, q, es, ep, hq, h2, h3, h4, h5⟩
  rw [upd_ne (ne_of ec hD (fun z => nomatch z))]
  exact ec
section
variable {X : Cx}
def tDcT (wi : TI) (g : TG) (tt : TT) (tk tv : TE) (vs : List Nat) : TE := fun σ H Q => wi σ H fun J H1 => ∀ D, H1 D = none → ∃ W : Nat → Nat → Hp → Prop, (∃ m, W 0 m (upd H1 D (.dT []))) ∧ ∀ i m H, W i m H →
  (J.stop i H ∧ Q (.ref D) H) ∨ (J.go i H ∧ ∃ Nx : Hp → Prop, (∀ H', Nx H' → ∃ m', m' < m ∧ W (i + 1) m' H') ∧ ∀ x H', J.yld i H x H' → g x (wipe σ vs) H' fun σ2 H2 => wipe σ2 vs = wipe σ vs ∧ tt σ2 H2 fun b H3 =>
    if b = true then tk σ2 H3 fun y H4 => tv σ2 H4 fun z H5 => ∃ kvs k b, y = .ref b ∧ H5 b = some (.tup (k.map kV)) ∧ H5 D = some (.dT kvs) ∧ kvs.length < sizeLine ∧ Nx (upd H5 D (.dT (putK kvs k z))) else Nx H3)
theorem pe_dcT {kx vx tg iter : Expr} {ifs : List Expr} {scope : Scope} {own : List (Str × Nat)} {pos : Pos} {wi : TI} {g : TG} {tt : TT} {tk tv : TE} (hu : X.A.units + 1 < cLine) (hc : X.calm = true) (hN : X.N.Nodup) (hi : PI X tg iter wi) (ok : BlkOk X.N X.env.scope scope own)
    (hg : ∀ (s : Shared) (H : Hp) (C : Addr) (cl : List (Str × Addr)) (fp : List Addr), PG (X.blk s H scope (compEnvC scope cl C X.env) fp) tg g)
    (ht : ∀ (s : Shared) (H : Hp) (C : Addr) (cl : List (Str × Addr)) (fp : List Addr), PTs (X.blk s H scope (compEnvC scope cl C X.env) fp) ifs tt)
    (hk : ∀ (s : Shared) (H : Hp) (C : Addr) (cl : List (Str × Addr)) (fp : List Addr), PE (X.blk s H scope (compEnvC scope cl C X.env) fp) kx tk)
    (he : ∀ (s : Shared) (H : Hp) (C : Addr) (cl : List (Str × Addr)) (fp : List Addr), PE (X.blk s H scope (compEnvC scope cl C X.env) fp) vx tv)
    (hs : ∀ x, foldedSetIterable iter X.env x = pure x := by intro _; rfl) :
    PE X (.DictComp kx vx [⟨tg, iter, ifs, 0⟩] scope pos) (tDcT wi g tt tk tv (own.map (·.2))) := by
  constructor
  intro pins s σ H Q I h
  rw [arm_eval_DictComp]
  have hfree : ∀ y ∈ scope.names, y.2 = .free → ∃ c, X.env.cells.lookup y.1 = some c := by
    intro y hy e
    rcases ok.free y hy e with k | k
    · exact I.ok.has _ (.inl k)
    · exact I.ok.has _ (.inr k)
  refine wpAny_comprehension_free (use := none) rfl hs (closure_ok hfree) ok.kind (fun y hy e => by rw [ok.uniq y hy, e]) ?_
  refine thn (hi.run pins s σ H _ I h) fun xv s1 hx => thn hx fun itv s2 h2 => ?_
  obtain ⟨it, fp, tn, J, H2, e, I2, T, st2, f2, q⟩ := h2
  subst e
  refine wpAny_newObj_type (newEnv_comp ?_)
  generalize hD : s2.heap.objs.size = D
  have hDn : H2 D = none := I2.hok.fresh (Nat.le_of_eq hD)
  obtain ⟨W, ⟨m0, w0⟩, turn⟩ := q D hDn
  -- the dict, empty
  generalize hs3 : ({ s2 with heap := s2.heap.push { cls := .type "dict", data := .dict #[] } } : Shared) = s3
  have h3 : s3.heap = s2.heap.push { cls := .type "dict", data := .dict #[] } := by rw [← hs3]
  have I3 : Inv X pins σ (upd H2 D (.dT [])) s3 := by
    subst hs3
    refine I2.laid (t' := s2.toks) (fun b o e => Heap.get?_push_of_some _ e) (Nat.le_of_eq hD) ?_
    subst hD
    exact dt_empty s2.heap I2.big
  have sz : ∀ b ∈ fp, b < s2.heap.objs.size := by
    intro b hb
    obtain ⟨o, e, _⟩ := T.obj _ _ st2 b hb
    exact Heap.lt_size e
  have f3 : ∀ b ∈ fp, FpOk X pins (upd H2 D (.dT [])) b ∧ b < s3.heap.objs.size := by
    intro b hb
    have hlt := sz b hb
    have hbD : b ≠ D := by rw [← hD]; exact Nat.ne_of_lt hlt
    refine ⟨⟨?_, (f2 b hb).2⟩, ?_⟩
    · rw [upd_ne hbD]
      exact (f2 b hb).1
    · rw [h3, Heap.size_push]
      exact Nat.lt_succ_of_lt hlt
  have st3 : tn 0 s3.heap := by
    refine T.keep _ _ _ st2 fun b _ o e => ?_
    rw [h3]
    exact Heap.get?_push_of_some _ e
  have I4 := block_start I3 ok hN f3
  generalize hcl : cellsFrom (s3.heap.objs.size + 1) scope.names (cloFrom X.env.cells scope.names []) = cl at I4
  have pg := hg s3 (upd H2 D (.dT [])) s3.heap.objs.size cl fp
  have pt := ht s3 (upd H2 D (.dT [])) s3.heap.objs.size cl fp
  have pk := hk s3 (upd H2 D (.dT [])) s3.heap.objs.size cl fp
  have pe := he s3 (upd H2 D (.dT [])) s3.heap.objs.size cl fp
  have goal : codeAny (model X.prog X.w) X.A (.compStart (.DictComp kx vx [⟨tg, iter, ifs, 0⟩] scope pos) 0 (.ref it) (.ref D) (compEnvC scope cl s3.heap.objs.size X.env)) (compPost (model X.prog X.w) X.A X.xe none (EP X pins σ Q) (.ref D) s3.heap.objs.size)
      { s3 with heap := pushCells (s3.heap.push { cls := .type "dict", data := .dict #[] }) scope.names } := by
    have nfp : ∀ b ∈ fp, (upd H2 D (.dT [])) b = none := fun b hb => (f3 b hb).1.1
    generalize hce : compEnvC scope cl s3.heap.objs.size X.env = ce at I4 pg pt pk pe ⊢
    have cL : ce.locals = s3.heap.objs.size := by subst hce; rfl
    generalize hH3 : upd H2 D (.dT []) = H3 at I3 I4 pg pt pk pe w0 nfp f3
    generalize hs4 : ({ s3 with heap := pushCells (s3.heap.push { cls := .type "dict", data := .dict #[] }) scope.names } : Shared) = s4 at I4 ⊢
    have st4 : tn 0 s4.heap := by
      refine T.keep _ _ _ st3 fun b _ o e => ?_
      rw [← hs4]
      exact pushCells_keeps _ _ _ _ (Heap.get?_push_of_some _ e)
    have stat : ∀ {σ' : St} {H' : Hp} {s' : Shared}, Inv (X.blk s3 H3 scope ce fp) [] σ' H' s' → (∀ b ∈ fp, H' b = none) → ∀ b ∈ fp, FpOk (X.blk s3 H3 scope ce fp) [] H' b := by
      intro σ' H' s' I' hn b hb
      exact ⟨hn b hb, (I'.ok.exf b hb).1, I'.ok.exfs b hb, .inl hb, fun x c e => (I'.ok.exf b hb).2 x c e, fun p hp => absurd (show p ∈ ([] : List (Addr × Obj)) ++ [] from hp) (by simp)⟩
    refine codeAny_compStart_dict ?loop ?self
    case self =>
      refine T.self X.A 0 _ _ _ st4 ?loop2
      exact ?loop
    case loop =>
      refine compLoop_anyD (fun n s' => ∃ i H', Inv (X.blk s3 H3 scope ce fp) [] (wipe σ (own.map (·.2))) H' s' ∧ tn i s'.heap ∧ (∀ b ∈ fp, H' b = none) ∧ W i n H') ?_ m0 ⟨0, H3, I4, st4, nfp, w0⟩
      rintro n s5 ⟨i, H5, I5, st5, n5, w5⟩
      rcases turn i n H5 w5 with ⟨stop, qq⟩ | ⟨go, Nx, hNx, step⟩
      · refine thnF (T.done (X.blk s3 H3 scope ce fp) rfl rfl rfl hc i [] s5 _ H5 (fun _ _ => False) I5 (stat I5 n5) st5 stop) fun r s6 ⟨hr, I6⟩ => ?_
        subst hr
        have I7 : Inv X pins σ H5 s6 := I3.call' (ch := fp) I6.os I6.base I6.hok I6.bare fun b hb => ⟨(f3 b hb).1.2.2.2.1, (f3 b hb).1.2.1, (f3 b hb).1.2.2.2.2.1, (f3 b hb).1.2.2.2.2.2⟩
        have nC : H5 s3.heap.objs.size = none := by
          have z : H5 ce.locals = none := I6.free
          rwa [cL] at z
        obtain ⟨m, hn, _⟩ := I6.loc
        have hn : s6.heap.Ns ce.locals m := hn
        rw [cL] at hn
        obtain ⟨g0, g1, g2, g3, g4, g5⟩ := I3.fpOk (Nat.le_refl _) nC
        refine ⟨m, hn, fun h'' sb => ?_⟩
        exact ⟨.ref D, H5, I7.turned (t' := s6.toks) (fun b o hb e => (sb.2 b hb).trans e) g0 g1 g3 g4 g5, rfl, qq⟩
      · refine thnF (T.item (X.blk s3 H3 scope ce fp) rfl rfl rfl hc i [] s5 _ H5 (fun _ _ => False) I5 (stat I5 n5) st5 go) fun r s6 ⟨u, hr, h6⟩ => ?_
        subst hr
        refine thnF h6 fun _ s7 ⟨x, H7, I7, r7, y7, st7, n7⟩ => ?_
        have I7' := I7.pinned (stat I7 n7) (T.obj _ _ st7)
        refine thnF (pg.run _ s7 _ H7 x u _ I7' r7 (step x H7 y7)) fun _ s8 ⟨σ8, H8, I8, hw8, q8⟩ => ?_
        refine thnF (pt.run _ s8 σ8 H8 _ I8 q8) fun b s9 ⟨H9, I9, q9⟩ => ?_
        have fin : ∀ {s' : Shared} {H' : Hp}, Inv (X.blk s3 H3 scope ce fp) ([] ++ pinsAt fp s7.heap) σ8 H' s' → Nx H' → ∃ m, m < n ∧ ∃ i H', Inv (X.blk s3 H3 scope ce fp) [] (wipe σ (own.map (·.2))) H' s' ∧ tn i s'.heap ∧ (∀ b ∈ fp, H' b = none) ∧ W i m H' := by
          intro s' H' I' nx
          obtain ⟨m', hm, w'⟩ := hNx H' nx
          have pin' : ∀ b ∈ fp, ∀ o, s7.heap.get? b = some o → s'.heap.get? b = some o ∧ H' b = none := by
            intro b hb o e
            have z := I'.pin (b, o) (List.mem_append_right _ (List.mem_append_right _ (mem_pinsAt hb e)))
            exact ⟨z.1, z.2.1⟩
          have hl : (wipe σ (own.map (·.2))).length = σ8.length := by rw [← hw8, wipe_length]
          refine ⟨m', hm, i + 1, H', (I'.unpinned (pins := [])).weak hl ?_, ?_, ?_, w'⟩
          · intro j v e
            rw [← hw8] at e
            exact (wipe_some e).1
          · exact T.keep _ _ _ st7 fun b hb o e => (pin' b hb o e).1
          · intro b hb
            obtain ⟨o, e, _⟩ := T.obj _ _ st7 b hb
            exact (pin' b hb o e).2
        cases b with
        | false =>
          simp only [Bool.false_eq_true, if_false] at q9 ⊢
          exact fin I9 q9
        | true =>
          simp only [if_true] at q9 ⊢
          refine thnF (pk.run _ s9 σ8 H9 _ I9 q9) fun z s10 ⟨yk, H10, I10, r10, q10⟩ => ?_
          refine thnF (pe.run _ s10 σ8 H10 _ I10 q10) fun z2 s11 ⟨yv, H11, I11, r11, kvs, k, b, ek, eb, hD11, hz11, nx⟩ => ?_
          subst ek
          have hKey : H11 b = some (.tup (k.map kV)) := eb
          refine dT_dictSet (X := X.blk s3 H3 scope ce fp) hu I11 hD11 hz11 hKey ?_ r11 fun s12 I12 => fin I12 nx
          exact r10
  subst hcl
  exact goal
end
end L2

namespace L2
open PySem PySem.Spec PyProof.Rows
section
variable {X : Cx}
/-! ### a tuple whose object is known to have no dict of its own: made by tuple(list), asked by a method -/
def rTupF (K : PySem.W.Frag) : List V → Hp → VK → Prop := fun xs H Q => ∃ p ys, xs = [.ref p] ∧ SqL K H p ys ∧ ∀ l o, H l = none → o.dict = none → Q (.ref l) (upd H l (.frz o (.tup ys)))
theorem call_tupleF : CallR X (.type "tuple") (rTupF X.K) := by
  intro pins s σ H xs us Q I r h
  obtain ⟨p, ys, rfl, hq, q⟩ := h
  obtain ⟨u, rfl, rx⟩ := vals1 r
  cases rx
  obtain ⟨its, r', pl, hz⟩ := I.list hq
  have hlen := r'.length
  refine call_tuple_list pl.isList (fun h' kp => ?_) (by simp only [List.size_toArray] <;> omega)
  have I1 : Inv X pins σ H { s with heap := h' } := I.kept (t' := s.toks) kp
  have new : ObjOk X.prog X.w (upd H h'.objs.size (.frz { cls := .type "tuple", data := .seq its.toArray } (.tup ys))) (h'.push { cls := .type "tuple", data := .seq its.toArray }) h'.objs.size (.frz { cls := .type "tuple", data := .seq its.toArray } (.tup ys)) :=
    ⟨Heap.get?_push_size _ rfl, hz, its, r', IsTup.new _ _⟩
  exact ⟨.ref h'.objs.size, _, I1.laid (t' := s.toks) (fun b o e => Heap.get?_push_of_some _ e) (Nat.le_refl _) new, rfl, q _ _ (I1.hok.fresh (Nat.le_refl _)) rfl⟩
def tBMF (r : V → List V → Hp → VK → Prop) (to : TE) (t : TA) : TE := fun σ H Q => to σ H fun x H1 => (∃ p o xs, x = .ref p ∧ H1 p = some (.frz o (.tup xs)) ∧ o.dict = none) ∧ t σ H1 fun xs H2 => r x xs H2 Q
theorem pe_bmF {o e : Expr} {es : List Expr} {to : TE} {t : TA} {name : Str} {apos cpos : Pos} {id : String} {r : V → List V → Hp → VK → Prop} (pa : PlainAttrs "tuple") (slot : Slot "tuple" name id)
    (hty : typeOf (.builtin id) = pure (.type "method_descriptor")) (hm : MtR X id r) (ho : PE X o to) (ha : PA X (e :: es) t)
    (hbase : attributeBase o name X.env (eval o X.env) = eval o X.env := by rfl)
    (hfew : ((backTo cpos (starEach (e :: es) X.env)).all (fun x => !x.1) && (backToKw cpos (keywordEach [] X.env)).all (fun x => x.1.isSome)
      && decide ((e :: es).length + ([] : List Keyword).length + (if ([] : List Keyword).isEmpty then 0 else 1) < 30)) = true := by rfl)
    (hline : (apos.endLine == cpos.line) = true := by rfl) (hs : starEach (e :: es) X.env = (false, eval e X.env) :: starEach es X.env := by rfl) (hplain : (backTo cpos (starEach es X.env)).any (·.1) = false := by rfl) :
    PE X (.Call (.Attribute o name apos) (e :: es) [] cpos) (tBMF r to t) := by
  constructor
  intro pins s σ H Q I h
  refine wpAny_Call_method_late hbase hfew hline rfl (thn (ho.run pins s σ H _ I h) fun v s1 ⟨x, H1, I1, r1, ty, q1⟩ => ?_)
  obtain ⟨p, ob, xs, rfl, hp, hd⟩ := ty
  obtain rfl : v = Value.ref p := r1
  obtain ⟨e1, _, _, _, o2, e2, hc, _⟩ := (show ObjOk X.prog X.w H1 s1.heap p (.frz ob (.tup xs)) from I1.hok p _ hp)
  refine ⟨"tuple", id, pa, slot, hty, ⟨o2, e2, hc⟩, fun a ea => ?_, ?_⟩
  · cases ea
    exact ⟨ob, e1, hd⟩
  have hA := ha.run cpos pins s1 σ H1 _ I1 q1
  rw [hs] at hA ⊢
  refine Calls.callWith_builtin (by show (false || (backTo cpos (starEach es X.env)).any (·.1)) = false; rw [hplain] <;> rfl) (Calls.evalArgs_plain ?_)
  exact thn hA fun us s2 ⟨vs, H2, I2, r2, q2⟩ => hm pins s2 σ H2 (.ref p) vs (.ref p) us Q I2 (show RelV (.ref p) (Value.ref p) from rfl) r2 q2
end
end L2
end

section
namespace K81
open PySem PySem.Spec PyProof.Rows L2
/-! ### the text -/
def topS (i : Nat) : Stmt := PySem.Challenge.pw_tiepress_k81_renamings_whole.main.body.getD i (.Pass ⟨0, 0, 0, 0⟩)
/-! ### values -/
abbrev nV (n : Nat) : V := V.int (n : Int)
/-! ### operators on masks -/
def rNat (f : Nat → Nat → Nat) : R2 := fun x y H Q => ∃ n m : Nat, x = nV n ∧ y = nV m ∧ Q (nV (f n m)) H
theorem nat_of {x : V} {v : Value} {n : Nat} (e : x = nV n) (r : RelV x v) : ∃ t, v = .int (n : Int) t := by
  subst e
  exact r
abbrev rShrT : R2 := rNat fun n m => n >>> m
abbrev rAndT : R2 := rNat fun n m => n &&& m
abbrev rOrT : R2 := rNat fun n m => n ||| m
abbrev rXorT : R2 := rNat fun n m => n ^^^ m
def rShlT : R2 := fun x y H Q => ∃ m : Nat, x = .int 1 ∧ y = nV m ∧ m ≤ 1000 ∧ Q (nV (2 ^ m)) H
section
variable {X : Cx}
theorem op_shrT : OpR X (binaryOp .RShift) rShrT := by
  intro pins s σ H x y v u Q I rx ry h
  obtain ⟨n, m, rfl, rfl, q⟩ := h
  refine op_shr pins s σ H _ _ v u Q I rx ry ⟨_, _, rfl, rfl, Int.natCast_nonneg m, ?_⟩
  have e : ((n : Int) / 2 ^ (m : Int).toNat) = ((n >>> m : Nat) : Int) := by
    rw [Int.toNat_natCast, Nat.shiftRight_eq_div_pow]
    push_cast
    rfl
  show Q (.int ((n : Int) / 2 ^ (m : Int).toNat)) H
  rw [e]
  exact q
theorem op_andT : OpR X (binaryOp .BitAnd) rAndT := by
  intro pins s σ H x y v u Q I rx ry h
  obtain ⟨n, m, rfl, rfl, q⟩ := h
  refine op_and pins s σ H _ _ v u Q I rx ry ⟨_, _, rfl, rfl, ?_⟩
  have e : Builtin.bitAnd (n : Int) (m : Int) = ((n &&& m : Nat) : Int) := by
    unfold Builtin.bitAnd
    rw [decide_eq_true (Int.natCast_nonneg n), decide_eq_true (Int.natCast_nonneg m)]
    rfl
  show Q (.int (Builtin.bitAnd (n : Int) (m : Int))) H
  rw [e]
  exact q
theorem op_orT : OpR X (binaryOp .BitOr) rOrT := by
  intro pins s σ H x y v u Q I rx ry h
  obtain ⟨n, m, rfl, rfl, q⟩ := h
  refine op_or pins s σ H _ _ v u Q I rx ry ⟨_, _, rfl, rfl, ?_⟩
  have e := Bits.bitOr_pp (Int.natCast_nonneg n) (Int.natCast_nonneg m)
  rw [Int.toNat_natCast, Int.toNat_natCast] at e
  show Q (.int (Builtin.bitOr (n : Int) (m : Int))) H
  rw [e]
  exact q
theorem op_xorT : OpR X (binaryOp .BitXor) rXorT := by
  intro pins s σ H x y v u Q I rx ry h
  obtain ⟨n, m, rfl, rfl, q⟩ := h
  refine op_xor pins s σ H _ _ v u Q I rx ry ⟨_, _, rfl, rfl, ?_⟩
  have e := Bits.bitXor_pp (Int.natCast_nonneg n) (Int.natCast_nonneg m)
  rw [Int.toNat_natCast, Int.toNat_natCast] at e
  show Q (.int (Builtin.bitXor (n : Int) (m : Int))) H
  rw [e]
  exact q
theorem op_shlT : OpR X (binaryOp .LShift) rShlT := by
  intro pins s σ H x y v u Q I rx ry h
  obtain ⟨m, rfl, rfl, hm, q⟩ := h
  refine op_shl pins s σ H _ _ v u Q I rx ry ⟨_, _, rfl, rfl, ⟨Int.natCast_nonneg m, by omega, by decide⟩, ?_⟩
  have e : ((1 : Int) * 2 ^ (m : Int).toNat) = ((2 ^ m : Nat) : Int) := by
    rw [Int.toNat_natCast, Int.one_mul]
    push_cast
    rfl
  show Q (.int ((1 : Int) * 2 ^ (m : Int).toNat)) H
  rw [e]
  exact q
/-! ### a list or a tuple walked -/
def iAny (K : PySem.W.Frag) (tl : TE) : TI := fun σ H R => iList K tl σ H R ∨ iTup K tl σ H R
theorem pi_any {tg l : Expr} {tl : TE} (hl : PE X l tl) : PI X tg l (iAny X.K tl) := by
  refine ⟨fun pins s σ H R I h => ?_⟩
  rcases h with h | h
  · exact (pi_list hl).run pins s σ H R I h
  · exact (pi_tup hl).run pins s σ H R I h
end
/-! ### names of readings, for the printed terms -/
abbrev rAddI : R2 := rI0 fun i j => .int (i + j)
abbrev rSubI : R2 := rI0 fun i j => .int (i - j)
abbrev rMulI : R2 := rI CMul fun i j => .int (i * j)
abbrev rModI : R2 := rI (fun _ j => 0 < j) fun i j => .int (i % j)
abbrev rDivI : R2 := rI CDivW fun i j => .int (i / j)
abbrev rPowI : R2 := rI CPow fun i j => .int (i ^ j.toNat)
abbrev rLtI : R2 := rI0 fun i j => .bl (decide (i < j))
abbrev rLeI : R2 := rI0 fun i j => .bl (decide (i ≤ j))
abbrev rGtI : R2 := rI0 fun i j => .bl (decide (j < i))
abbrev rGeI : R2 := rI0 fun i j => .bl (decide (j ≤ i))
def rAddS : R2 := fun x y H Q => ∃ i j, x = .str i ∧ y = .str j ∧ i.length + j.length ≤ sizeLine ∧ Q (.str (i ++ j)) H
/-! ### heaps -/
theorem _root_.L2.Same.lay {H : Hp} {p : Addr} {o : HO} (h : H p = none) : Same H (upd H p o) := fun b u e => by
  rw [upd_ne (ne_of_none e h)]
  exact e
/-- what is new since H0 may change -/
theorem _root_.L2.Same.chg {H0 H : Hp} {p : Addr} {o : HO} (e : Same H0 H) (h : H0 p = none) : Same H0 (upd H p o) := fun b u ha => by
  rw [upd_ne (ne_of_none ha h)]
  exact e b u ha
def TSame (H H' : Hp) : Prop := ∀ b xs, H b = some (.tup xs) → H' b = some (.tup xs)
theorem TSame.refl (H : Hp) : TSame H H := fun _ _ e => e
theorem TSame.trans {H H1 H2 : Hp} (a : TSame H H1) (b : TSame H1 H2) : TSame H H2 := fun c xs e => b c xs (a c xs e)
theorem _root_.L2.Same.tup {H H' : Hp} (e : Same H H') : TSame H H' := fun b xs h => e b _ h
/-- a list, a dict is changed -/
theorem TSame.mut {H : Hp} {p : Addr} {o u : HO} (h : H p = some u) (hu : ∀ xs, u ≠ .tup xs) : TSame H (upd H p o) := fun b xs e => by
  rw [upd_ne (ne_of e h (fun z => hu xs z.symm))]
  exact e
theorem TSame.lst {H : Hp} {p : Addr} {o : HO} {ys : List V} (h : H p = some (.lst ys)) : TSame H (upd H p o) := TSame.mut h fun xs z => nomatch z
theorem TSame.dT {H : Hp} {p : Addr} {o : HO} {kvs : List (List Key × V)} (h : H p = some (.dT kvs)) : TSame H (upd H p o) := TSame.mut h fun xs z => nomatch z
/-! ### data -/
def IT (H : Hp) (v : V) (ns : List Nat) : Prop := ∃ a, v = .ref a ∧ H a = some (.tup (ns.map nV))
def IL (H : Hp) (v : V) (ns : List Nat) : Prop := ∃ a, v = .ref a ∧ H a = some (.lst (ns.map nV))
def StrT (H : Hp) (v : V) (ss : List Str) : Prop := ∃ a, v = .ref a ∧ H a = some (.tup (ss.map V.str))
def StrL (H : Hp) (v : V) (ss : List Str) : Prop := ∃ a, v = .ref a ∧ H a = some (.lst (ss.map V.str))
def P2 (H : Hp) (v : V) (p : Nat × Nat) : Prop := ∃ a, v = .ref a ∧ H a = some (.tup [nV p.1, nV p.2])
def PS2 (H : Hp) (v : V) (p : Str × Str) : Prop := ∃ a, v = .ref a ∧ H a = some (.tup [.str p.1, .str p.2])
/-- a tuple, a list of things told by R -/
def TupOf {α : Type} (R : Hp → V → α → Prop) (H : Hp) (v : V) (l : List α) : Prop := ∃ a xs, v = .ref a ∧ H a = some (.tup xs) ∧ Paired (R H) xs l
def LstOf {α : Type} (R : Hp → V → α → Prop) (H : Hp) (v : V) (l : List α) : Prop := ∃ a xs, v = .ref a ∧ H a = some (.lst xs) ∧ Paired (R H) xs l
theorem IT.t {H H' : Hp} {v : V} {ns : List Nat} (e : TSame H H') (h : IT H v ns) : IT H' v ns := let ⟨a, q, z⟩ := h; ⟨a, q, e _ _ z⟩
theorem StrT.t {H H' : Hp} {v : V} {ns : List Str} (e : TSame H H') (h : StrT H v ns) : StrT H' v ns := let ⟨a, q, z⟩ := h; ⟨a, q, e _ _ z⟩
theorem P2.t {H H' : Hp} {v : V} {p : Nat × Nat} (e : TSame H H') (h : P2 H v p) : P2 H' v p := let ⟨a, q, z⟩ := h; ⟨a, q, e _ _ z⟩
theorem PS2.t {H H' : Hp} {v : V} {p : Str × Str} (e : TSame H H') (h : PS2 H v p) : PS2 H' v p := let ⟨a, q, z⟩ := h; ⟨a, q, e _ _ z⟩
theorem IL.s {H H' : Hp} {v : V} {ns : List Nat} (e : Same H H') (h : IL H v ns) : IL H' v ns := let ⟨a, q, z⟩ := h; ⟨a, q, e _ _ z⟩
theorem StrL.s {H H' : Hp} {v : V} {ns : List Str} (e : Same H H') (h : StrL H v ns) : StrL H' v ns := let ⟨a, q, z⟩ := h; ⟨a, q, e _ _ z⟩
theorem Paired.get {α β : Type} {F : α → β → Prop} : ∀ {xs : List α} {ys : List β} {i : Nat} {y : β}, Paired F xs ys → ys[i]? = some y → ∃ x, xs[i]? = some x ∧ F x y
  | _, _, _, _, .nil, e => by simp at e
  | _, _, 0, y, .cons r _, e => by simp at e; subst e; exact ⟨_, by simp, r⟩
  | _, _, i + 1, y, .cons _ t, e => by
    obtain ⟨x, h1, h2⟩ := Paired.get (i := i) (y := y) t (by simpa using e)
    exact ⟨x, by simpa using h1, h2⟩
theorem TupOf.t {α : Type} {R : Hp → V → α → Prop} (m : ∀ {H H' : Hp} {v : V} {x : α}, TSame H H' → R H v x → R H' v x) {H H' : Hp} {v : V} {l : List α} (e : TSame H H') (h : TupOf R H v l) : TupOf R H' v l :=
  let ⟨a, xs, q, z, p⟩ := h; ⟨a, xs, q, e _ _ z, L2.Paired.mapP p fun _ _ r => m e r⟩
theorem LstOf.s {α : Type} {R : Hp → V → α → Prop} (m : ∀ {H H' : Hp} {v : V} {x : α}, TSame H H' → R H v x → R H' v x) {H H' : Hp} {v : V} {l : List α} (e : Same H H') (h : LstOf R H v l) : LstOf R H' v l :=
  let ⟨a, xs, q, z, p⟩ := h; ⟨a, xs, q, e _ _ z, L2.Paired.mapP p fun _ _ r => m e.tup r⟩
/-- what a call hands back -/
def Res (H : Hp) (Q : VK) (R : V → Hp → Prop) : Prop := ∀ v H', Same H H' → R v H' → Q v H'
theorem ns_at {ns : List Nat} {i : Nat} (h : i < ns.length) : (ns.map nV)[i]? = some (nV (g ns i)) := by
  rw [List.getElem?_map, g_get h]
  rfl
theorem layL {H : Hp} {p : Addr} (n : H p = none) (xs : List V) : Same H (upd H p (.lst xs)) ∧ upd H p (.lst xs) p = some (.lst xs) := ⟨Same.lay n, upd_same⟩
theorem layT {H : Hp} {p : Addr} (n : H p = none) (xs : List V) : Same H (upd H p (.tup xs)) ∧ upd H p (.tup xs) p = some (.tup xs) := ⟨Same.lay n, upd_same⟩
/-! ### readings, one step each -/
section
variable {D : Ends} {σ : L2.St} {H : Hp} {ta tb te : TE} {t u : TS} {tt tu : TT} {K : PySem.W.Frag} {v x y : V}
theorem r_seq (h : t { D with nx := u D } σ H) : tSeq t u D σ H := h
theorem r_next (h : D.nx σ H) : tNext D σ H := h
theorem r_brk (h : D.bk σ H) : tBreak D σ H := h
theorem r_ct (h : D.ct σ H) : tCont D σ H := h
theorem r_asg {i : Nat} (h : te σ H fun x H1 => D.nx (σ.set i (some x)) H1) : tAsg te (gName i) D σ H := h
theorem r_asgS {ti to : TE} {r : TSet} (h : te σ H fun x H1 => to σ H1 fun o H2 => ti σ H2 fun i H3 => r o i x H3 fun H4 => D.nx σ H4) : tAsg te (gSub to ti r) D σ H := h
theorem r_ret (h : te σ H D.rt) : tRet te D σ H := h
theorem r_drop (h : te σ H fun _ H1 => D.nx σ H1) : tDrop te D σ H := h
theorem r_if (h : tt σ H fun b H1 => if b = true then t D σ H1 else u D σ H1) : tIfS tt t u D σ H := h
theorem r_var {i : Nat} {Q : VK} (h : σ[i]? = some (some v)) (q : Q v H) : tVar i σ H Q := ⟨v, h, q⟩
theorem r_c {Q : VK} (q : Q v H) : tC v σ H Q := q
theorem r_op {r : R2} {Q : VK} (h : ta σ H fun x H1 => tb σ H1 fun y H2 => r x y H2 Q) : tOp r ta tb σ H Q := h
theorem r_un {r : V → Hp → VK → Prop} {Q : VK} (h : ta σ H fun x H1 => r x H1 Q) : tUn r ta σ H Q := h
theorem r_cb {r : List V → Hp → VK → Prop} {a : TA} {Q : VK} (h : a σ H fun vs H1 => r vs H1 Q) : tCB r a σ H Q := h
theorem r_nil {Q : List V → Hp → Prop} (h : Q [] H) : tNil σ H Q := h
theorem r_cons {a : TA} {Q : List V → Hp → Prop} (h : te σ H fun x H1 => a σ H1 fun xs H2 => Q (x :: xs) H2) : tCons te a σ H Q := h
theorem r_test {Q : Bool → Hp → Prop} (h : te σ H fun x H' => ∃ k, x = .bl k ∧ Q k H') : tTest te σ H Q := h
theorem r_tB {Q : Bool → Hp → Prop} (h : te σ H fun x H' => ∃ k, x = .bl k ∧ Q k H') : tB te σ H Q := h
theorem r_not {Q : Bool → Hp → Prop} (h : tt σ H fun c H1 => Q (!c) H1) : tNot tt σ H Q := h
theorem r_and {Q : Bool → Hp → Prop} (h : tt σ H fun c H1 => if c = true then tu σ H1 Q else Q false H1) : tAnd tt tu σ H Q := h
theorem r_or {Q : Bool → Hp → Prop} (h : tt σ H fun c H1 => if c = true then Q true H1 else tu σ H1 Q) : tOr tt tu σ H Q := h
theorem r_yes {Q : Bool → Hp → Prop} (h : Q true H) : tYes σ H Q := h
theorem r_bl {b : Bool} {Q : Bool → Prop} (q : Q b) : ∃ k, V.bl b = .bl k ∧ Q k := ⟨b, rfl, q⟩
theorem r_call {sp : Sp} {a : TA} {E : XK} {Q : VK} (h : a σ H fun vs H1 => sp vs H1 Q E) : tCall sp [] E a σ H Q := by
  have e : (fun (vs : List V) (H1 : Hp) => sp (vs ++ []) H1 Q E) = fun vs H1 => sp vs H1 Q E := by
    funext vs H1
    rw [List.append_nil]
  show a σ H fun vs H1 => sp (vs ++ []) H1 Q E
  rw [e]
  exact h
theorem r_i0 {f : Int → Int → V} {i j : Int} {Q : VK} (q : Q (f i j) H) : rI0 f (.int i) (.int j) H Q := ⟨i, j, rfl, rfl, q⟩
theorem r_i {C : Int → Int → Prop} {f : Int → Int → V} {i j : Int} {Q : VK} (c : C i j) (q : Q (f i j) H) : rI C f (.int i) (.int j) H Q := ⟨i, j, rfl, rfl, c, q⟩
theorem r_nat {f : Nat → Nat → Nat} {n m : Nat} {Q : VK} (q : Q (nV (f n m)) H) : rNat f (nV n) (nV m) H Q := ⟨n, m, rfl, rfl, q⟩
theorem r_nat1 {f : Nat → Nat → Nat} {n : Nat} {Q : VK} (q : Q (nV (f n 1)) H) : rNat f (nV n) (.int 1) H Q := ⟨n, 1, rfl, rfl, q⟩
theorem r_shl {m : Nat} {Q : VK} (hm : m ≤ 1000) (q : Q (nV (2 ^ m)) H) : rShlT (.int 1) (nV m) H Q := ⟨m, rfl, rfl, hm, q⟩
theorem r_eq {Q : VK} (h : scal x y = true) (q : Q (.bl (decide (x = y))) H) : rEq x y H Q := ⟨h, q⟩
theorem r_ne {Q : VK} (h : scal x y = true) (q : Q (.bl (!decide (x = y))) H) : rNe x y H Q := ⟨h, q⟩
/-- a tuple, a list laid anew -/
theorem r_tup {a : TA} {Q : VK} (h : a σ H fun xs H1 => xs.length ≤ sizeLine ∧ ∀ p, H1 p = none → Q (.ref p) (upd H1 p (.tup xs))) : tTup a σ H Q := h
theorem r_lst {a : TA} {Q : VK} (h : a σ H fun xs H1 => xs.length ≤ sizeLine ∧ ∀ p, H1 p = none → Q (.ref p) (upd H1 p (.lst xs))) : tLst a σ H Q := h
theorem small5 {n : Nat} (h : n ≤ 100000) : n ≤ sizeLine := Nat.le_trans h (by decide)
theorem r_ixL {p : Addr} {xs : List V} {i : Nat} {Q : VK} (h : H p = some (.lst xs)) (hi : xs[i]? = some v) (q : Q v H) : rIxL K (.ref p) (nV i) H Q := ⟨p, xs, _, v, rfl, rfl, SqL.of h, atI_nat hi, q⟩
theorem r_ixT {p : Addr} {xs : List V} {i : Nat} {Q : VK} (h : H p = some (.tup xs)) (hi : xs[i]? = some v) (q : Q v H) : rIxT K (.ref p) (nV i) H Q := ⟨p, xs, _, v, rfl, rfl, SqT.of h, atI_nat hi, q⟩
theorem r_ixL0 {p : Addr} {xs : List V} {Q : VK} {i : Int} (j : Nat) (e : i = (j : Int)) (h : H p = some (.lst xs)) (hi : xs[j]? = some v) (q : Q v H) : rIxL K (.ref p) (.int i) H Q := by
  subst e
  exact r_ixL h hi q
theorem r_ixT0 {p : Addr} {xs : List V} {Q : VK} {i : Int} (j : Nat) (e : i = (j : Int)) (h : H p = some (.tup xs)) (hi : xs[j]? = some v) (q : Q v H) : rIxT K (.ref p) (.int i) H Q := by
  subst e
  exact r_ixT h hi q
theorem r_setL {p : Addr} {xs : List V} {i : Nat} {R : Hp → Prop} (h : H p = some (.lst xs)) (hi : i < xs.length) (q : R (upd H p (.lst (xs.set i v)))) : rSetL (.ref p) (nV i) v H R :=
  ⟨p, xs, _, i, rfl, rfl, h, by unfold ixN; rw [if_pos (Int.natCast_nonneg i), if_pos (by omega), Int.toNat_natCast], q⟩
/-- xs.append(e) -/
theorem r_app {to : TE} {a : TA} (h : to σ H fun x H1 => tyV K "list" x H1 ∧ a σ H1 fun xs H2 => rAppend x xs H2 fun _ H3 => D.nx σ H3) : tDrop (tBM K "list" rAppend to a) D σ H := h
theorem r_append {l : Addr} {xs : List V} {Q : VK} (h : H l = some (.lst xs)) (z : xs.length < 100000) (q : Q .non (upd H l (.lst (xs ++ [v])))) : rAppend (.ref l) [v] H Q := ⟨l, xs, v, rfl, rfl, h, Nat.lt_of_lt_of_le z (by decide), q⟩
theorem r_tyL {l : Addr} {xs : List V} {P : Prop} (h : H l = some (.lst xs)) (q : P) : tyV K "list" (.ref l) H ∧ P := ⟨.inl ⟨rfl, _, SqL.of h⟩, q⟩
/-- len, tuple(list), list(list) -/
def rLenS (K : PySem.W.Frag) : List V → Hp → VK → Prop := fun xs H Q => ∃ p ys, xs = [.ref p] ∧ (SqL K H p ys ∨ SqT K H p ys) ∧ Q (.int ys.length) H
theorem r_lenL {p : Addr} {xs : List V} {Q : VK} (h : H p = some (.lst xs)) (q : Q (nV xs.length) H) : rLenS K [.ref p] H Q := ⟨p, xs, rfl, .inl (SqL.of h), q⟩
theorem r_lenT {p : Addr} {xs : List V} {Q : VK} (h : H p = some (.tup xs)) (q : Q (nV xs.length) H) : rLenS K [.ref p] H Q := ⟨p, xs, rfl, .inr (SqT.of h), q⟩
def rTupOf (K : PySem.W.Frag) : List V → Hp → VK → Prop := fun xs H Q => ∃ p ys, xs = [.ref p] ∧ ((SqL K H p ys ∧ ∀ l, H l = none → Q (.ref l) (upd H l (.tup ys))) ∨ (SqT K H p ys ∧ Q (.ref p) H))
theorem r_tupOf {p : Addr} {xs : List V} {Q : VK} (h : H p = some (.lst xs)) (q : ∀ l, H l = none → Q (.ref l) (upd H l (.tup xs))) : rTupOf K [.ref p] H Q := ⟨p, xs, rfl, .inl ⟨SqL.of h, q⟩⟩
def rListOf (K : PySem.W.Frag) : List V → Hp → VK → Prop := fun xs H Q => ∃ p ys, xs = [.ref p] ∧ (SqL K H p ys ∨ SqT K H p ys) ∧ ∀ l, H l = none → Q (.ref l) (upd H l (.lst ys))
theorem r_listOf {p : Addr} {xs : List V} {Q : VK} (h : H p = some (.lst xs)) (q : ∀ l, H l = none → Q (.ref l) (upd H l (.lst xs))) : rListOf K [.ref p] H Q := ⟨p, xs, rfl, .inl (SqL.of h), q⟩
def rInt1 : List V → Hp → VK → Prop := fun xs H Q => (∃ i, xs = [.int i] ∧ Q (.int i) H) ∨ ∃ k, xs = [.bl k] ∧ Q (.int (if k then 1 else 0)) H
theorem r_int1 {i : Int} {Q : VK} (q : Q (.int i) H) : rInt1 [.int i] H Q := .inl ⟨i, rfl, q⟩
def rLenStr : List V → Hp → VK → Prop := fun xs H Q => ∃ z, xs = [.str z] ∧ z.length ≤ sizeLine ∧ Q (.int z.length) H
/-- the bit k of m, as a test: (m >> k) & 1 == 1 -/
theorem bit_eq (m k : Nat) : (decide (nV ((m >>> k) &&& 1) = V.int 1)) = m.testBit k := by
  have e : (m >>> k) &&& 1 = (m.testBit k).toNat := by
    rw [Nat.and_one_is_mod, Nat.testBit, Nat.and_comm, Nat.and_one_is_mod]
    rcases Nat.mod_two_eq_zero_or_one (m >>> k) with h | h <;> simp [h]
  rw [e]
  cases m.testBit k <;> rfl
theorem r_bitT {m k : Nat} {Q : Bool → Prop} (q : Q (m.testBit k)) : ∃ b, V.bl (decide (nV ((m >>> k) &&& 1) = V.int 1)) = .bl b ∧ Q b := ⟨_, rfl, by rw [bit_eq]; exact q⟩
/-! ### loops -/
/-- for k, x in enumerate(t), t a tuple of masks that stays -/
theorem r_forE {j i1 i2 : Nat} {a : Addr} {ns : List Nat} {tb : TS} (Pv : Nat → L2.St → Hp → Prop) (hj : σ[j]? = some (some (.ref a))) (ha : H a = some (.tup (ns.map nV))) (h0 : Pv 0 σ H)
    (hG : ∀ i σ' H', i ≤ ns.length → Pv i σ' H' → H' a = some (.tup (ns.map nV)))
    (hs : ∀ i σ' H' H'', i < ns.length → Pv i σ' H' → Same H' H'' → tb { D with nx := Pv (i + 1), ct := Pv (i + 1), bk := D.nx } ((σ'.set i1 (some (nV i))).set i2 (some (nV (g ns i)))) H'')
    (hd : ∀ σ' H', Pv ns.length σ' H' → D.nx σ' H') : tFor (iEnumT K (tCons (tVar j) tNil)) (gTup K 2 (gCons (gName i1) (gCons (gName i2) gNil))) tb D σ H := by
  refine ⟨_, hj, a, rfl, ⟨_, SqT.of ha⟩, ?_⟩
  have w := walk_enumT (K := K) (a := a) (xs := ns.map nV)
  rw [List.length_map] at w
  refine for_it w Pv h0 (fun i σ' H' hi p => SqT.of (hG i σ' H' hi p)) (fun i x σ' H' H'' hi p y => ?_) hd
  obtain ⟨T, z, rfl, nT, rfl, hz⟩ := y
  rw [ns_at hi] at hz
  cases hz
  exact ⟨T, _, rfl, SqT.of upd_same, rfl, _, _, rfl, _, _, rfl, rfl, hs i σ' H' _ hi p (Same.lay nT)⟩
end
/-! ### a comprehension over any walk: D its list, RR what is said of the items so far -/
def LcI (H1 : Hp) (D : Addr) (RR : Nat → List V → Hp → Prop) (i : Nat) (H : Hp) : Prop := Same H1 H ∧ ∃ acc, H D = some (.lst acc) ∧ acc.length ≤ i ∧ RR i acc H
def Mono (RR : Nat → List V → Hp → Prop) : Prop := ∀ i acc H H', TSame H H' → RR i acc H → RR i acc H'
theorem lc_yes {H1 H : Hp} {D : Addr} {RR : Nat → List V → Hp → Prop} {i : Nat} {acc : List V} {y : V} (m : Mono RR) (n1 : H1 D = none) (s : Same H1 H) (e : H D = some (.lst acc)) (z : acc.length ≤ i) (hi : i < 50000) (r : RR (i + 1) (acc ++ [y]) H) :
    ∃ acc, H D = some (.lst acc) ∧ acc.length < sizeLine ∧ LcI H1 D RR (i + 1) (upd H D (.lst (acc ++ [y]))) :=
  ⟨acc, e, Nat.lt_of_le_of_lt z (Nat.lt_of_lt_of_le hi (by decide)), s.chg n1, _, upd_same, by rw [List.length_append, List.length_singleton]; omega, m _ _ _ _ (TSame.lst e) r⟩
theorem lc_no {H1 H : Hp} {D : Addr} {RR : Nat → List V → Hp → Prop} {i : Nat} {acc : List V} (s : Same H1 H) (e : H D = some (.lst acc)) (z : acc.length ≤ i) (r : RR (i + 1) acc H) : LcI H1 D RR (i + 1) H := ⟨s, acc, e, by omega, r⟩
theorem lc_D {J : It} {n : Nat} {G : Hp → Prop} {Y : Nat → Hp → V → Hp → Prop} (w : Walk J n G Y) {gt : TG} {tt : TT} {te : TE} {vs : List Nat} {σ : L2.St} {H1 : Hp} {Q : VK} (RR : Nat → List V → Hp → Prop) (m : Mono RR) (h0 : RR 0 [] H1)
    (hG : ∀ H', Same H1 H' → G H') (hY : ∀ i H x H', Y i H x H' → Same H H')
    (hs : ∀ D acc i x H H', H1 D = none → i < n → Same H1 H' → H' D = some (.lst acc) → acc.length ≤ i → RR i acc H' → Y i H x H' → gt x (wipe σ vs) H' fun σ2 H2 => wipe σ2 vs = wipe σ vs ∧ tt σ2 H2 fun b H3 =>
      if b = true then te σ2 H3 fun y H4 => ∃ acc, H4 D = some (.lst acc) ∧ acc.length < sizeLine ∧ LcI H1 D RR (i + 1) (upd H4 D (.lst (acc ++ [y]))) else LcI H1 D RR (i + 1) H3)
    (hd : ∀ D H' acc, H1 D = none → Same H1 H' → H' D = some (.lst acc) → acc.length ≤ n → RR n acc H' → Q (.ref D) H') :
    ∀ D, H1 D = none → ∃ W : Nat → Nat → Hp → Prop, (∃ m, W 0 m (upd H1 D (.lst []))) ∧ ∀ i m H, W i m H →
      (J.stop i H ∧ Q (.ref D) H) ∨ (J.go i H ∧ ∃ Nx : Hp → Prop, (∀ H', Nx H' → ∃ m', m' < m ∧ W (i + 1) m' H') ∧ ∀ x H', J.yld i H x H' → gt x (wipe σ vs) H' fun σ2 H2 => wipe σ2 vs = wipe σ vs ∧ tt σ2 H2 fun b H3 =>
        if b = true then te σ2 H3 fun y H4 => ∃ acc, H4 D = some (.lst acc) ∧ acc.length < sizeLine ∧ Nx (upd H4 D (.lst (acc ++ [y]))) else Nx H3) := by
  intro D hD
  refine lc_it w (LcI H1 D RR) ⟨Same.lay hD, [], upd_same, Nat.le_refl _, m _ _ _ _ (Same.lay hD).tup h0⟩ (fun i H hi p => hG H p.1) (fun i x H H' hi p y => ?_) (fun H p => ?_)
  · obtain ⟨s, acc, e, z, r⟩ := p
    have s' := hY i H x H' y
    exact hs D acc i x H H' hD hi (s.trans s') (s' _ _ e) z (m _ _ _ _ s'.tup r) y
  · obtain ⟨s, acc, e, z, r⟩ := p
    exact hd D H acc hD s e z r
theorem yAt_same {xs : List V} : ∀ i H x H', YAt xs i H x H' → Same H H' := fun i H x H' y => by
  rw [y.1]
  exact Same.refl H
theorem yFn_same {f : Nat → V} : ∀ i H x H', YFn f i H x H' → Same H H' := fun i H x H' y => by
  rw [y.1]
  exact Same.refl H
theorem yE_same {xs : List V} : ∀ (i : Nat) (H : Hp) (x : V) (H' : Hp), (∃ T z, x = V.ref T ∧ H T = none ∧ H' = upd H T (.tup [.int (i : Nat), z]) ∧ xs[i]? = some z) → Same H H' := fun i H x H' y => by
  obtain ⟨T, z, _, n, rfl, _⟩ := y
  exact Same.lay n
/-! ### loops and comprehensions: the step to what they walk -/
section
variable {D : Ends} {σ : L2.St} {H : Hp} {tl te : TE} {ta : TA} {tb : TS} {gt : TG} {tt : TT} {K : PySem.W.Frag} {vs : List Nat} {Q : VK}
/-- what a loop asks of its walk -/
def ForW (J : It) (gt : TG) (tb : TS) (D : Ends) (σ : L2.St) (H : Hp) : Prop := ∃ W : Nat → Nat → L2.St → Hp → Prop, (∃ m, W 0 m σ H) ∧ ∀ i m σ H, W i m σ H →
  (J.stop i H ∧ D.nx σ H) ∨ (J.go i H ∧ ∃ N : L2.St → Hp → Prop, (∀ σ' H', N σ' H' → ∃ m', m' < m ∧ W (i + 1) m' σ' H') ∧ ∀ x H', J.yld i H x H' → gt x σ H' fun σ2 H2 => tb { D with nx := N, ct := N, bk := D.nx } σ2 H2)
def LcW (J : It) (gt : TG) (tt : TT) (te : TE) (vs : List Nat) (σ : L2.St) (H1 : Hp) (Q : VK) : Prop := ∀ D, H1 D = none → ∃ W : Nat → Nat → Hp → Prop, (∃ m, W 0 m (upd H1 D (.lst []))) ∧ ∀ i m H, W i m H →
  (J.stop i H ∧ Q (.ref D) H) ∨ (J.go i H ∧ ∃ Nx : Hp → Prop, (∀ H', Nx H' → ∃ m', m' < m ∧ W (i + 1) m' H') ∧ ∀ x H', J.yld i H x H' → gt x (wipe σ vs) H' fun σ2 H2 => wipe σ2 vs = wipe σ vs ∧ tt σ2 H2 fun b H3 =>
    if b = true then te σ2 H3 fun y H4 => ∃ acc, H4 D = some (.lst acc) ∧ acc.length < sizeLine ∧ Nx (upd H4 D (.lst (acc ++ [y]))) else Nx H3)
theorem r_for1 (h : ta σ H fun ws H1 => ∃ j : Int, ws = [.int j] ∧ -(2 ^ 62) ≤ j ∧ j < 2 ^ 62 ∧ ForW (Itr 0 j.toNat) gt tb D σ H1) : tFor (iRng1 ta) gt tb D σ H := h
theorem r_for2 (h : ta σ H fun ws H1 => ∃ i j : Int, ws = [.int i, .int j] ∧ (-(2 ^ 62) ≤ i ∧ i < 2 ^ 62 ∧ -(2 ^ 62) ≤ j ∧ j < 2 ^ 62) ∧ ForW (Itr i (j - i).toNat) gt tb D σ H1) : tFor (iRng2 ta) gt tb D σ H := h
theorem r_forT (h : tl σ H fun x H1 => ∃ a, x = .ref a ∧ (∃ xs, SqT K H1 a xs) ∧ ForW (Itt K a) gt tb D σ H1) : tFor (iTup K tl) gt tb D σ H := h
theorem r_forL (h : tl σ H fun x H1 => ∃ a, x = .ref a ∧ (∃ xs, SqL K H1 a xs) ∧ ForW (Itl K a) gt tb D σ H1) : tFor (iList K tl) gt tb D σ H := h
theorem r_lc1 (h : ta σ H fun ws H1 => ∃ j : Int, ws = [.int j] ∧ -(2 ^ 62) ≤ j ∧ j < 2 ^ 62 ∧ LcW (Itr 0 j.toNat) gt tt te vs σ H1 Q) : tLc (iRng1 ta) gt tt te vs σ H Q := h
theorem r_lcT (h : tl σ H fun x H1 => ∃ a, x = .ref a ∧ (∃ xs, SqT K H1 a xs) ∧ LcW (Itt K a) gt tt te vs σ H1 Q) : tLc (iTup K tl) gt tt te vs σ H Q := h
theorem r_lcL (h : tl σ H fun x H1 => ∃ a, x = .ref a ∧ (∃ xs, SqL K H1 a xs) ∧ LcW (Itl K a) gt tt te vs σ H1 Q) : tLc (iList K tl) gt tt te vs σ H Q := h
theorem r_lcE (h : ta σ H fun ws H1 => ∃ a, ws = [.ref a] ∧ (∃ xs, SqT K H1 a xs) ∧ LcW (IteT K a) gt tt te vs σ H1 Q) : tLc (iEnumT K ta) gt tt te vs σ H Q := h
/-- the walks, by an invariant -/
theorem w_r1 {j : Nat} {n : Nat} (Pv : Nat → L2.St → Hp → Prop) (hn : n ≤ 2000000) (h0 : Pv 0 σ H)
    (hs : ∀ i σ' H', i < n → Pv i σ' H' → tb { D with nx := Pv (i + 1), ct := Pv (i + 1), bk := D.nx } (σ'.set j (some (nV i))) H') (hd : ∀ σ' H', Pv n σ' H' → D.nx σ' H') :
    ∃ m : Int, ([nV n] : List V) = [V.int m] ∧ -(2 ^ 62) ≤ m ∧ m < 2 ^ 62 ∧ ForW (Itr 0 m.toNat) (gName j) tb D σ H := by
  refine ⟨n, rfl, by omega, by omega, ?_⟩
  rw [Int.toNat_natCast]
  refine for_range (lo := 0) (n := n) Pv h0 (fun i σ' H' hi p => ?_) hd
  rw [Int.zero_add]
  exact hs i σ' H' hi p
theorem w_r2 {j : Nat} {i1 i2 : Int} (a b : Nat) (Pv : Nat → L2.St → Hp → Prop) (e1 : i1 = (a : Int)) (e2 : i2 = (b : Int)) (ha : a ≤ 100000) (hb : b ≤ 100000) (h0 : Pv 0 σ H)
    (hs : ∀ i σ' H', a + i < b → Pv i σ' H' → tb { D with nx := Pv (i + 1), ct := Pv (i + 1), bk := D.nx } (σ'.set j (some (nV (a + i)))) H') (hd : ∀ σ' H', Pv (b - a) σ' H' → D.nx σ' H') :
    ∃ m m' : Int, ([V.int i1, V.int i2] : List V) = [V.int m, V.int m'] ∧ (-(2 ^ 62) ≤ m ∧ m < 2 ^ 62 ∧ -(2 ^ 62) ≤ m' ∧ m' < 2 ^ 62) ∧ ForW (Itr m (m' - m).toNat) (gName j) tb D σ H := by
  subst e1 e2
  refine ⟨a, b, rfl, ⟨by omega, by omega, by omega, by omega⟩, ?_⟩
  have e : ((b : Int) - (a : Int)).toNat = b - a := by omega
  rw [e]
  refine for_range (lo := (a : Int)) (n := b - a) Pv h0 (fun i σ' H' hi p => ?_) hd
  have e3 : (a : Int) + (i : Int) = ((a + i : Nat) : Int) := by omega
  rw [e3]
  exact hs i σ' H' (by omega) p
theorem w_t {a : Addr} {xs : List V} (Pv : Nat → L2.St → Hp → Prop) (ha : H a = some (.tup xs)) (h0 : Pv 0 σ H) (hG : ∀ i σ' H', i ≤ xs.length → Pv i σ' H' → H' a = some (.tup xs))
    (hs : ∀ i x σ' H', xs[i]? = some x → Pv i σ' H' → gt x σ' H' fun σ2 H2 => tb { D with nx := Pv (i + 1), ct := Pv (i + 1), bk := D.nx } σ2 H2) (hd : ∀ σ' H', Pv xs.length σ' H' → D.nx σ' H') :
    ∃ a', V.ref a = .ref a' ∧ (∃ xs, SqT K H a' xs) ∧ ForW (Itt K a') gt tb D σ H :=
  ⟨a, rfl, ⟨xs, SqT.of ha⟩, for_tup Pv h0 (fun i σ' H' hi p => SqT.of (hG i σ' H' hi p)) hs hd⟩
theorem w_l {a : Addr} {xs : List V} (Pv : Nat → L2.St → Hp → Prop) (ha : H a = some (.lst xs)) (h0 : Pv 0 σ H) (hG : ∀ i σ' H', i ≤ xs.length → Pv i σ' H' → H' a = some (.lst xs))
    (hs : ∀ i x σ' H', xs[i]? = some x → Pv i σ' H' → gt x σ' H' fun σ2 H2 => tb { D with nx := Pv (i + 1), ct := Pv (i + 1), bk := D.nx } σ2 H2) (hd : ∀ σ' H', Pv xs.length σ' H' → D.nx σ' H') :
    ∃ a', V.ref a = .ref a' ∧ (∃ xs, SqL K H a' xs) ∧ ForW (Itl K a') gt tb D σ H :=
  ⟨a, rfl, ⟨xs, SqL.of ha⟩, for_list Pv h0 (fun i σ' H' hi p => SqL.of (hG i σ' H' hi p)) hs hd⟩
/-- comprehensions, by what is said of the items so far -/
theorem c_r1 {n : Nat} (RR : Nat → List V → Hp → Prop) (m : Mono RR) (hn : n ≤ 2000000) (h0 : RR 0 [] H)
    (hs : ∀ D acc i H', H D = none → i < n → Same H H' → H' D = some (.lst acc) → acc.length ≤ i → RR i acc H' → gt (nV i) (wipe σ vs) H' fun σ2 H2 => wipe σ2 vs = wipe σ vs ∧ tt σ2 H2 fun b H3 =>
      if b = true then te σ2 H3 fun y H4 => ∃ acc, H4 D = some (.lst acc) ∧ acc.length < sizeLine ∧ LcI H D RR (i + 1) (upd H4 D (.lst (acc ++ [y]))) else LcI H D RR (i + 1) H3)
    (hd : ∀ D H' acc, H D = none → Same H H' → H' D = some (.lst acc) → acc.length ≤ n → RR n acc H' → Q (.ref D) H') :
    ∃ j : Int, ([nV n] : List V) = [V.int j] ∧ -(2 ^ 62) ≤ j ∧ j < 2 ^ 62 ∧ LcW (Itr 0 j.toNat) gt tt te vs σ H Q := by
  refine ⟨n, rfl, by omega, by omega, ?_⟩
  rw [Int.toNat_natCast]
  refine lc_D (walk_range (lo := 0) (n := n)) RR m h0 (fun _ _ => True.intro) yFn_same (fun D acc i x H1 H' hD hi s e z r y => ?_) hd
  obtain ⟨_, rfl⟩ := y
  dsimp only
  rw [Int.zero_add]
  exact hs D acc i H' hD hi s e z r
theorem c_t {a : Addr} {xs : List V} (RR : Nat → List V → Hp → Prop) (m : Mono RR) (ha : H a = some (.tup xs)) (h0 : RR 0 [] H)
    (hs : ∀ D acc i x H', H D = none → xs[i]? = some x → i < xs.length → Same H H' → H' D = some (.lst acc) → acc.length ≤ i → RR i acc H' → gt x (wipe σ vs) H' fun σ2 H2 => wipe σ2 vs = wipe σ vs ∧ tt σ2 H2 fun b H3 =>
      if b = true then te σ2 H3 fun y H4 => ∃ acc, H4 D = some (.lst acc) ∧ acc.length < sizeLine ∧ LcI H D RR (i + 1) (upd H4 D (.lst (acc ++ [y]))) else LcI H D RR (i + 1) H3)
    (hd : ∀ D H' acc, H D = none → Same H H' → H' D = some (.lst acc) → acc.length ≤ xs.length → RR xs.length acc H' → Q (.ref D) H') :
    ∃ a', V.ref a = .ref a' ∧ (∃ xs, SqT K H a' xs) ∧ LcW (Itt K a') gt tt te vs σ H Q :=
  ⟨a, rfl, ⟨xs, SqT.of ha⟩, lc_D (walk_tup (K := K) (a := a) (xs := xs)) RR m h0 (fun H' s => SqT.of (s _ _ ha)) yAt_same (fun D acc i x H1 H' hD hi s e z r y => hs D acc i x H' hD y.2 hi s e z r) hd⟩
theorem c_l {a : Addr} {xs : List V} (RR : Nat → List V → Hp → Prop) (m : Mono RR) (ha : H a = some (.lst xs)) (h0 : RR 0 [] H)
    (hs : ∀ D acc i x H', H D = none → xs[i]? = some x → i < xs.length → Same H H' → H' D = some (.lst acc) → acc.length ≤ i → RR i acc H' → gt x (wipe σ vs) H' fun σ2 H2 => wipe σ2 vs = wipe σ vs ∧ tt σ2 H2 fun b H3 =>
      if b = true then te σ2 H3 fun y H4 => ∃ acc, H4 D = some (.lst acc) ∧ acc.length < sizeLine ∧ LcI H D RR (i + 1) (upd H4 D (.lst (acc ++ [y]))) else LcI H D RR (i + 1) H3)
    (hd : ∀ D H' acc, H D = none → Same H H' → H' D = some (.lst acc) → acc.length ≤ xs.length → RR xs.length acc H' → Q (.ref D) H') :
    ∃ a', V.ref a = .ref a' ∧ (∃ xs, SqL K H a' xs) ∧ LcW (Itl K a') gt tt te vs σ H Q :=
  ⟨a, rfl, ⟨xs, SqL.of ha⟩, lc_D (walk_list (K := K) (a := a) (xs := xs)) RR m h0 (fun H' s => SqL.of (s _ _ ha)) yAt_same (fun D acc i x H1 H' hD hi s e z r y => hs D acc i x H' hD y.2 hi s e z r) hd⟩
theorem c_e {a : Addr} {xs : List V} {i1 i2 : Nat} (RR : Nat → List V → Hp → Prop) (m : Mono RR) (ha : H a = some (.tup xs)) (h0 : RR 0 [] H)
    (hs : ∀ D acc i x H', H D = none → xs[i]? = some x → i < xs.length → Same H H' → H' D = some (.lst acc) → acc.length ≤ i → RR i acc H' → wipe (((wipe σ vs).set i1 (some (nV i))).set i2 (some x)) vs = wipe σ vs ∧ tt (((wipe σ vs).set i1 (some (nV i))).set i2 (some x)) H' fun b H3 =>
      if b = true then te (((wipe σ vs).set i1 (some (nV i))).set i2 (some x)) H3 fun y H4 => ∃ acc, H4 D = some (.lst acc) ∧ acc.length < sizeLine ∧ LcI H D RR (i + 1) (upd H4 D (.lst (acc ++ [y]))) else LcI H D RR (i + 1) H3)
    (hd : ∀ D H' acc, H D = none → Same H H' → H' D = some (.lst acc) → acc.length ≤ xs.length → RR xs.length acc H' → Q (.ref D) H') :
    ∃ a', ([V.ref a] : List V) = [.ref a'] ∧ (∃ xs, SqT K H a' xs) ∧ LcW (IteT K a') (gTup K 2 (gCons (gName i1) (gCons (gName i2) gNil))) tt te vs σ H Q := by
  refine ⟨a, rfl, ⟨xs, SqT.of ha⟩, lc_D (walk_enumT (K := K) (a := a) (xs := xs)) RR m h0 (fun H' s => SqT.of (s _ _ ha)) yE_same (fun D acc i x H1 H' hD hi s e z r y => ?_) hd⟩
  obtain ⟨T, x', rfl, nT, rfl, hx⟩ := y
  exact ⟨T, _, rfl, SqT.of upd_same, rfl, _, _, rfl, _, _, rfl, rfl, hs D acc i x' _ hD hx hi s e z r⟩
end
/-! ### in, over numbers and texts -/
theorem inV_nat (j : Nat) (o : List Nat) : inV (nV j) (o.map nV) = decide (j ∈ o) := by
  unfold inV
  rw [List.any_map]
  induction o with
  | nil => rfl
  | cons x r ih =>
    rw [List.any_cons, ih]
    have e : ((fun y => eqV y (nV j)) ∘ nV) x = decide (x = j) := by
      show ((x : Int) == (j : Int)) = decide (x = j)
      by_cases q : x = j
      · subst q; simp
      · have q2 : ¬ (x : Int) = (j : Int) := by omega
        simp [q, q2]
    rw [e]
    by_cases q : x = j
    · subst q; simp
    · have q' : ¬ j = x := fun z => q z.symm
      simp [q, q']
theorem inV_str (s : Str) (o : List Str) : inV (.str s) (o.map V.str) = decide (s ∈ o) := by
  unfold inV
  rw [List.any_map]
  induction o with
  | nil => rfl
  | cons x r ih =>
    rw [List.any_cons, ih]
    have e : ((fun y => eqV y (.str s)) ∘ V.str) x = decide (x = s) := by
      show (x == s) = decide (x = s)
      by_cases q : x = s
      · subst q; simp
      · simp [q]
    rw [e]
    by_cases q : x = s
    · subst q; simp
    · have q' : ¬ s = x := fun z => q z.symm
      simp [q, q']
theorem flat_nat (o : List Nat) : (o.map nV).all flatV = true := by
  induction o with
  | nil => rfl
  | cons x r ih => rw [List.map_cons, List.all_cons, ih]; rfl
theorem flat_str (o : List Str) : (o.map V.str).all flatV = true := by
  induction o with
  | nil => rfl
  | cons x r ih => rw [List.map_cons, List.all_cons, ih]; rfl
section
variable {H : Hp} {K : PySem.W.Frag} {Q : VK} {p : Addr}
theorem r_niT {j : Nat} {o : List Nat} (h : H p = some (.tup (o.map nV))) (q : Q (.bl (!decide (j ∈ o))) H) : rIn K true (nV j) (.ref p) H Q :=
  ⟨p, _, rfl, .inr (SqT.of h), rfl, flat_nat o, by rw [inV_nat]; exact q⟩
theorem r_niTs {j : Str} {o : List Str} (h : H p = some (.tup (o.map V.str))) (q : Q (.bl (!decide (j ∈ o))) H) : rIn K true (.str j) (.ref p) H Q :=
  ⟨p, _, rfl, .inr (SqT.of h), rfl, flat_str o, by rw [inV_str]; exact q⟩
theorem r_niLs {j : Str} {o : List Str} (h : H p = some (.lst (o.map V.str))) (q : Q (.bl (!decide (j ∈ o))) H) : rIn K true (.str j) (.ref p) H Q :=
  ⟨p, _, rfl, .inl (SqL.of h), rfl, flat_str o, by rw [inV_str]; exact q⟩
theorem r_inL {j : Int} {o : List Nat} (n : Nat) (e : j = (n : Int)) (h : H p = some (.lst (o.map nV))) (q : Q (.bl (decide (n ∈ o))) H) : rIn K false (.int j) (.ref p) H Q := by
  subst e
  exact ⟨p, _, rfl, .inl (SqL.of h), rfl, flat_nat o, by
    show Q (.bl (inV (nV n) (o.map nV))) H
    rw [inV_nat]; exact q⟩
end
/-! ### tuples as they are read, however they lie -/
theorem sqT_s {K : PySem.W.Frag} {H H' : Hp} {a : Addr} {xs : List V} (e : Same H H') (h : SqT K H a xs) : SqT K H' a xs := by
  rcases h with (h | ⟨o, h⟩) | h
  · exact .inl (.inl (e _ _ h))
  · exact .inl (.inr ⟨o, e _ _ h⟩)
  · exact .inr h
/-- the names of a net's points: a tuple, its object known -/
def PtsT (H : Hp) (v : V) (ss : List Str) : Prop := ∃ a o, v = .ref a ∧ o.dict = none ∧ H a = some (.frz o (.tup (ss.map V.str)))
theorem PtsT.s {H H' : Hp} {v : V} {ss : List Str} (e : Same H H') (h : PtsT H v ss) : PtsT H' v ss := let ⟨a, o, q, z, y⟩ := h; ⟨a, o, q, z, e _ _ y⟩
theorem sqF {K : PySem.W.Frag} {H : Hp} {a : Addr} {o : Obj} {xs : List V} (h : H a = some (.frz o (.tup xs))) : SqT K H a xs := .inl (.inr ⟨o, h⟩)
section
variable {D : Ends} {σ : L2.St} {H : Hp} {tl te : TE} {ta : TA} {tb : TS} {gt : TG} {tt : TT} {K : PySem.W.Frag} {vs : List Nat} {Q : VK} {v : V}
theorem r_ixTS {p : Addr} {xs : List V} {i : Nat} (h : SqT K H p xs) (hi : xs[i]? = some v) (q : Q v H) : rIxT K (.ref p) (nV i) H Q := ⟨p, xs, _, v, rfl, rfl, h, atI_nat hi, q⟩
theorem r_lenTS {p : Addr} {xs : List V} (h : SqT K H p xs) (q : Q (nV xs.length) H) : rLenS K [.ref p] H Q := ⟨p, xs, rfl, .inr h, q⟩
theorem r_niTsS {p : Addr} {j : Str} {o : List Str} (h : SqT K H p (o.map V.str)) (q : Q (.bl (!decide (j ∈ o))) H) : rIn K true (.str j) (.ref p) H Q :=
  ⟨p, _, rfl, .inr h, rfl, flat_str o, by rw [inV_str]; exact q⟩
theorem w_tS {a : Addr} {xs : List V} (Pv : Nat → L2.St → Hp → Prop) (ha : SqT K H a xs) (h0 : Pv 0 σ H) (hG : ∀ i σ' H', i ≤ xs.length → Pv i σ' H' → SqT K H' a xs)
    (hs : ∀ i x σ' H', xs[i]? = some x → Pv i σ' H' → gt x σ' H' fun σ2 H2 => tb { D with nx := Pv (i + 1), ct := Pv (i + 1), bk := D.nx } σ2 H2) (hd : ∀ σ' H', Pv xs.length σ' H' → D.nx σ' H') :
    ∃ a', V.ref a = .ref a' ∧ (∃ xs, SqT K H a' xs) ∧ ForW (Itt K a') gt tb D σ H :=
  ⟨a, rfl, ⟨xs, ha⟩, for_tup Pv h0 hG hs hd⟩
theorem c_tS {a : Addr} {xs : List V} (RR : Nat → List V → Hp → Prop) (m : Mono RR) (ha : SqT K H a xs) (h0 : RR 0 [] H)
    (hs : ∀ D acc i x H', H D = none → xs[i]? = some x → i < xs.length → Same H H' → H' D = some (.lst acc) → acc.length ≤ i → RR i acc H' → gt x (wipe σ vs) H' fun σ2 H2 => wipe σ2 vs = wipe σ vs ∧ tt σ2 H2 fun b H3 =>
      if b = true then te σ2 H3 fun y H4 => ∃ acc, H4 D = some (.lst acc) ∧ acc.length < sizeLine ∧ LcI H D RR (i + 1) (upd H4 D (.lst (acc ++ [y]))) else LcI H D RR (i + 1) H3)
    (hd : ∀ D H' acc, H D = none → Same H H' → H' D = some (.lst acc) → acc.length ≤ xs.length → RR xs.length acc H' → Q (.ref D) H') :
    ∃ a', V.ref a = .ref a' ∧ (∃ xs, SqT K H a' xs) ∧ LcW (Itt K a') gt tt te vs σ H Q :=
  ⟨a, rfl, ⟨xs, ha⟩, lc_D (walk_tup (K := K) (a := a) (xs := xs)) RR m h0 (fun H' s => sqT_s s ha) yAt_same (fun D acc i x H1 H' hD hi s e z r y => hs D acc i x H' hD y.2 hi s e z r) hd⟩
theorem c_eS {a : Addr} {xs : List V} {i1 i2 : Nat} (RR : Nat → List V → Hp → Prop) (m : Mono RR) (ha : SqT K H a xs) (h0 : RR 0 [] H)
    (hs : ∀ D acc i x H', H D = none → xs[i]? = some x → i < xs.length → Same H H' → H' D = some (.lst acc) → acc.length ≤ i → RR i acc H' → wipe (((wipe σ vs).set i1 (some (nV i))).set i2 (some x)) vs = wipe σ vs ∧ tt (((wipe σ vs).set i1 (some (nV i))).set i2 (some x)) H' fun b H3 =>
      if b = true then te (((wipe σ vs).set i1 (some (nV i))).set i2 (some x)) H3 fun y H4 => ∃ acc, H4 D = some (.lst acc) ∧ acc.length < sizeLine ∧ LcI H D RR (i + 1) (upd H4 D (.lst (acc ++ [y]))) else LcI H D RR (i + 1) H3)
    (hd : ∀ D H' acc, H D = none → Same H H' → H' D = some (.lst acc) → acc.length ≤ xs.length → RR xs.length acc H' → Q (.ref D) H') :
    ∃ a', ([V.ref a] : List V) = [.ref a'] ∧ (∃ xs, SqT K H a' xs) ∧ LcW (IteT K a') (gTup K 2 (gCons (gName i1) (gCons (gName i2) gNil))) tt te vs σ H Q := by
  refine ⟨a, rfl, ⟨xs, ha⟩, lc_D (walk_enumT (K := K) (a := a) (xs := xs)) RR m h0 (fun H' s => sqT_s s ha) yE_same (fun D acc i x H1 H' hD hi s e z r y => ?_) hd⟩
  obtain ⟨T, x', rfl, nT, rfl, hx⟩ := y
  exact ⟨T, _, rfl, SqT.of upd_same, rfl, _, _, rfl, _, _, rfl, rfl, hs D acc i x' _ hD hx hi s e z r⟩
end
/-! ### what the module's names stand for -/
structure Bi (mg : Str → Option Value) : Prop where
  len : mg "len" = none
  range : mg "range" = none
  tuple : mg "tuple" = none
  list : mg "list" = none
  sorted : mg "sorted" = none
  enumerate : mg "enumerate" = none
  int : mg "int" = none
  sum : mg "sum" = none
  isinstance : mg "isinstance" = none
  str : mg "str" = none
/-- a def of the module as it stands behind the top -/
structure DB (K : PySem.W.Frag) (mg : Str → Option Value) (x : Str) (st : Stmt) (ps : List Str) : Prop where
  ex : ∃ (f : Addr) (fd : FuncData), C8.Def K mg x st f fd ∧ Binds K fd ps []
end K81
end

section
open PySem PySem.Spec PyProof.Rows L2

namespace K81
local macro_rules | `(tactic| walk_at "s1") => `(tactic| first
  | with_reducible refine r_seq ?_
  | with_reducible refine r_asg ?_
  | with_reducible refine r_ret ?_
  | with_reducible refine r_if ?_
  | with_reducible refine r_app ?_
  | with_reducible refine r_drop ?_
  | with_reducible refine r_asgS ?_
  | with_reducible refine r_op ?_
  | with_reducible refine r_c ?_
  | ((with_reducible refine' r_var ?hv ?_); (case hv => exact rfl))
  | with_reducible refine r_cb ?_
  | with_reducible refine r_cons ?_
  | with_reducible refine r_nil ?_
  | with_reducible refine r_test ?_
  | with_reducible refine r_tB ?_
  | with_reducible refine r_not ?_
  | with_reducible refine r_and ?_
  | with_reducible refine r_or ?_
  | with_reducible refine r_call ?_
  | with_reducible refine r_tup ?_
  | with_reducible refine r_lst ?_
  | with_reducible refine r_yes ?_
  | with_reducible refine r_next ?_
  | with_reducible refine r_nat ?_
  | with_reducible refine r_nat1 ?_
  | with_reducible refine r_i0 ?_
  | with_reducible refine r_int1 ?_
  | ((with_reducible refine' r_eq ?hs ?_); (case hs => exact rfl))
  | ((with_reducible refine' r_ne ?hs ?_); (case hs => exact rfl))
  | with_reducible refine r_bitT ?_
  | with_reducible refine r_bl ?_)
local macro_rules | `(tactic| walk_at "go") => `(tactic| repeat walk_at "s1")

abbrev s_pressed_core : Stmt := topS 3
theorem sc_pressed_core : FnScope ["core", "at", "around", "after", "k", "mask"] ["core", "at"] (C8.fnScope s_pressed_core) := C8.fnScope_by (by decide +kernel)

section
variable {P : Program} {w : World} {K : PySem.W.Frag} {mg : Str → Option Value} {base : Heap}
def sp_pressed_core (K : PySem.W.Frag) : Sp := fun vs H Q _ => ∃ (p : V) (c : Core) (a : Nat), vs = [p, nV a] ∧ IT H p c ∧ a < c.length ∧ c.length ≤ 10 ∧ Res H Q fun v H' => IT H' v (press c a)
theorem c_pressed_core (B : Bi mg) (D : DB K mg "pressed_core" s_pressed_core ["core", "at"]) : C8.Cal P w K mg base 1 "pressed_core" (sp_pressed_core K) [] := by
  obtain ⟨f, fd, F, b⟩ := D.ex
  have nd := sc_pressed_core.nd
  refine C8.cal0 F b .nil sc_pressed_core (fun vs H Q E h => by obtain ⟨p, c, a, rfl, _⟩ := h; rfl) fun cdv A outer s H vs Q E hr h => ?_
  obtain ⟨_, c, a, rfl, ⟨p, rfl, hp⟩, ha, hc, k⟩ := h
  refine ⟨(tSeq (tAsg (tOp (rIxT K) (tVar 0) (tVar 1)) (gName 2))
      (tSeq (tAsg (tLst tNil) (gName 3))
      (tSeq (tFor (iEnumT K (tCons (tVar 0) tNil)) (gTup K 2 (gCons (gName 4) (gCons (gName 5) gNil))) (tIfS (tTest (tOp rEq (tOp rAndT (tOp rShrT (tVar 2) (tVar 4)) (tC (.int 1))) (tC (.int 1)))) (tDrop (tBM K "list" rAppend (tVar 3) (tCons (tOp rXorT (tOp rXorT (tVar 5) (tVar 2)) (tOp rShlT (tC (.int 1)) (tVar 4))) tNil))) (tDrop (tBM K "list" rAppend (tVar 3) (tCons (tVar 5) tNil)))))
      (tRet (tCB (rTupOf K) (tCons (tVar 3) tNil)))))),
      (pss_cons (ps_set (i := 2) nd rfl (by first | exact Or.inl rfl | exact Or.inr rfl) (pe_ix ix_tup (pv 0) (pv 1) (fun _ _ => rfl)))
      (pss_cons (ps_set (i := 3) nd rfl (by first | exact Or.inl rfl | exact Or.inr rfl) (pe_lst pa_nil))
      (pss_cons (ps_for PassesOwn.never rfl (pi_enumT (by rfl) B.enumerate (pa_cons (pv 0) pa_nil)) (pg_tup rfl (pgs_cons (pg_name (i := 4) nd rfl (by first | exact Or.inl rfl | exact Or.inr rfl)) (pgs_cons (pg_name (i := 5) nd rfl (by first | exact Or.inl rfl | exact Or.inr rfl)) pgs_nil))) (pss_one (ps_if (pt_cmpR op_eq (pe_op op_andT (pe_op op_shrT (pv 2) (pv 4)) pe_int) pe_int (nomark _)) (pss_one (ps_expr (pe_bm PySem.F.plainAttrs_list PySem.F.slot_list_append PySem.F.type_list_append mt_append (pv 3) (pa_cons (pe_op op_xorT (pe_op op_xorT (pv 5) (pv 2)) (pe_op op_shlT pe_int (pv 4))) pa_nil)))) (pss_one (ps_expr (pe_bm PySem.F.plainAttrs_list PySem.F.slot_list_append PySem.F.type_list_append mt_append (pv 3) (pa_cons (pv 5) pa_nil)))))))
      (pss_one (ps_ret (pe_callTy call_tuple_of (by rfl) B.tuple (by decide +kernel) (pa_cons (pv 3) pa_nil))))))), ?_⟩
  change tSeq _ _ _ [some (V.ref p), some (nV a), none, none, none, none] H
  walk_at "go"
  refine r_ixT hp (ns_at ha) ?_
  walk_at "go"
  refine ⟨Nat.zero_le _, fun l nl => ?_⟩
  obtain ⟨s1, hl⟩ := layL nl []
  walk_at "go"
  refine r_forE (a := p) (ns := c) (fun i σ' H' => ∃ v4 v5, σ' = [some (.ref p), some (nV a), some (nV (g c a)), some (.ref l), v4, v5] ∧ Same H H' ∧ H' l = some (.lst (((press c a).take i).map nV))) rfl (s1 _ _ hp) ?_ ?_ ?_ ?_
  · exact ⟨none, none, rfl, s1, hl⟩
  · rintro i σ' H' hi ⟨_, _, rfl, s2, _⟩
    exact s2 _ _ hp
  · rintro i σ' H' H'' hi ⟨v4, v5, rfl, s2, el⟩ s3
    have s4 := s2.trans s3
    have el := s3 _ _ el
    have hi' : i < (press c a).length := by rw [press_len]; exact hi
    have hz : (((press c a).take i).map nV).length < 100000 := by rw [List.length_map, List.length_take]; omega
    have fin : ∀ v, v = nV (g (press c a) i) → (upd H'' l (.lst (((press c a).take i).map nV ++ [v]))) l = some (.lst (((press c a).take (i + 1)).map nV)) := by
      rintro v rfl
      rw [upd_same, take_g hi', List.map_append]
      rfl
    walk_at "go"
    refine ite2 (fun hb => ?_) (fun hb => ?_)
    · walk_at "go"
      refine r_tyL el ?_
      walk_at "go"
      refine r_shl (by omega) ?_
      walk_at "go"
      refine r_append el hz ?_
      exact ⟨_, _, rfl, s4.chg nl, fin _ (by rw [press_g hi, if_pos hb])⟩
    · walk_at "go"
      refine r_tyL el ?_
      walk_at "go"
      refine r_append el hz ?_
      exact ⟨_, _, rfl, s4.chg nl, fin _ (by rw [press_g hi, if_neg hb])⟩
  · rintro σ' H' ⟨v4, v5, rfl, s2, el⟩
    rw [List.take_of_length_le (by rw [press_len]; exact Nat.le_refl _)] at el
    walk_at "go"
    refine r_tupOf el fun q nq => ?_
    obtain ⟨s3, eq⟩ := layT nq ((press c a).map nV)
    exact k _ _ (s2.trans s3) ⟨q, rfl, eq⟩
end
end K81
end

section
open PySem PySem.Spec PyProof.Rows L2

namespace K81
local macro_rules | `(tactic| walk_at "s1") => `(tactic| first
  | with_reducible refine r_seq ?_
  | with_reducible refine r_asg ?_
  | with_reducible refine r_ret ?_
  | with_reducible refine r_if ?_
  | with_reducible refine r_app ?_
  | with_reducible refine r_drop ?_
  | with_reducible refine r_asgS ?_
  | with_reducible refine r_op ?_
  | with_reducible refine r_c ?_
  | ((with_reducible refine' r_var ?hv ?_); (case hv => exact rfl))
  | with_reducible refine r_cb ?_
  | with_reducible refine r_cons ?_
  | with_reducible refine r_nil ?_
  | with_reducible refine r_test ?_
  | with_reducible refine r_tB ?_
  | with_reducible refine r_not ?_
  | with_reducible refine r_and ?_
  | with_reducible refine r_or ?_
  | with_reducible refine r_call ?_
  | with_reducible refine r_tup ?_
  | with_reducible refine r_for1 ?_
  | with_reducible refine r_for2 ?_
  | with_reducible refine r_forT ?_
  | with_reducible refine r_forL ?_
  | with_reducible refine r_lc1 ?_
  | with_reducible refine r_lcT ?_
  | with_reducible refine r_lcL ?_
  | with_reducible refine r_lcE ?_
  | with_reducible refine r_lst ?_
  | with_reducible refine r_yes ?_
  | with_reducible refine r_next ?_
  | with_reducible refine r_nat ?_
  | with_reducible refine r_nat1 ?_
  | with_reducible refine r_i0 ?_
  | with_reducible refine r_int1 ?_
  | ((with_reducible refine' r_eq ?hs ?_); (case hs => exact rfl))
  | ((with_reducible refine' r_ne ?hs ?_); (case hs => exact rfl))
  | with_reducible refine r_bitT ?_
  | with_reducible refine r_bl ?_)
local macro_rules | `(tactic| walk_at "go") => `(tactic| repeat walk_at "s1")

abbrev s_core_ties : Stmt := topS 5
theorem sc_core_ties : FnScope ["core", "found", "i", "mask", "k"] ["core"] (C8.fnScope s_core_ties) := C8.fnScope_by (by decide +kernel)
abbrev s_placed_core : Stmt := topS 33
theorem sc_placed_core : FnScope ["core", "order", "after", "k", "mask", "other", "place"] ["core", "order"] (C8.fnScope s_placed_core) := C8.fnScope_by (by decide +kernel)

section
variable {P : Program} {w : World} {K : PySem.W.Frag} {mg : Str → Option Value} {base : Heap}
theorem p2_t {H H' : Hp} {xs : List V} {l : List (Nat × Nat)} (e : TSame H H') (h : Paired (P2 H) xs l) : Paired (P2 H') xs l := L2.Paired.mapP h fun _ _ r => r.t e
theorem it_t {H H' : Hp} {xs : List V} {l : List (List Nat)} (e : TSame H H') (h : Paired (IT H) xs l) : Paired (IT H') xs l := L2.Paired.mapP h fun _ _ r => r.t e
def sp_core_ties (K : PySem.W.Frag) : Sp := fun vs H Q _ => ∃ (p : V) (c : Core), vs = [p] ∧ IT H p c ∧ c.length ≤ 10 ∧ Res H Q fun v H' => TupOf P2 H' v (ties c)
theorem c_core_ties (B : Bi mg) (D : DB K mg "core_ties" s_core_ties ["core"]) : C8.Cal P w K mg base 1 "core_ties" (sp_core_ties K) [] := by
  obtain ⟨f, fd, F, b⟩ := D.ex
  have nd := sc_core_ties.nd
  refine C8.cal0 F b .nil sc_core_ties (fun vs H Q E h => by obtain ⟨p, c, rfl, _⟩ := h; rfl) fun cdv A outer s H vs Q E hr h => ?_
  obtain ⟨_, c, rfl, ⟨p, rfl, hp⟩, hc, k⟩ := h
  refine ⟨(tSeq (tAsg (tLst tNil) (gName 1))
      (tSeq (tFor (iEnumT K (tCons (tVar 0) tNil)) (gTup K 2 (gCons (gName 2) (gCons (gName 3) gNil))) (tFor (iRng2 (tCons (tOp rAddI (tVar 2) (tC (.int 1))) (tCons (tCB (rLenS K) (tCons (tVar 0) tNil)) tNil))) (gName 4) (tIfS (tTest (tOp rEq (tOp rAndT (tOp rShrT (tVar 3) (tVar 4)) (tC (.int 1))) (tC (.int 1)))) (tDrop (tBM K "list" rAppend (tVar 1) (tCons (tTup (tCons (tVar 2) (tCons (tVar 4) tNil))) tNil))) tNext)))
      (tRet (tCB (rTupOf K) (tCons (tVar 1) tNil))))),
      (pss_cons (ps_set (i := 1) nd rfl (by first | exact Or.inl rfl | exact Or.inr rfl) (pe_lst pa_nil))
      (pss_cons (ps_for PassesOwn.never rfl (pi_enumT (by rfl) B.enumerate (pa_cons (pv 0) pa_nil)) (pg_tup rfl (pgs_cons (pg_name (i := 2) nd rfl (by first | exact Or.inl rfl | exact Or.inr rfl)) (pgs_cons (pg_name (i := 3) nd rfl (by first | exact Or.inl rfl | exact Or.inr rfl)) pgs_nil))) (pss_one (ps_for PassesOwn.never rfl (pi_range2 (by rfl) B.range (pa_cons (pe_op op_add (pv 2) pe_int) (pa_cons (pe_callB call_len_seq (by rfl) B.len PySem.boot_len (pa_cons (pv 0) pa_nil)) pa_nil))) (pg_name (i := 4) nd rfl (by first | exact Or.inl rfl | exact Or.inr rfl)) (pss_one (ps_if (pt_cmpR op_eq (pe_op op_andT (pe_op op_shrT (pv 3) (pv 4)) pe_int) pe_int (nomark _)) (pss_one (ps_expr (pe_bm PySem.F.plainAttrs_list PySem.F.slot_list_append PySem.F.type_list_append mt_append (pv 1) (pa_cons (pe_tup (pa_cons (pv 2) (pa_cons (pv 4) pa_nil))) pa_nil)))) pss_nil)))))
      (pss_one (ps_ret (pe_callTy call_tuple_of (by rfl) B.tuple (by decide +kernel) (pa_cons (pv 1) pa_nil)))))), ?_⟩
  change tSeq _ _ _ [some (V.ref p), none, none, none, none] H
  walk_at "go"
  refine ⟨Nat.zero_le _, fun l nl => ?_⟩
  obtain ⟨s1, hl⟩ := layL nl []
  walk_at "go"
  refine r_forE (a := p) (ns := c) (fun i σ' H' => ∃ v2 v3 v4 xs, σ' = [some (.ref p), some (.ref l), v2, v3, v4] ∧ Same H H' ∧ H' l = some (.lst xs) ∧ Paired (P2 H') xs (tiesK c i)) rfl (s1 _ _ hp) ?_ ?_ ?_ ?_
  · exact ⟨none, none, none, [], rfl, s1, hl, .nil⟩
  · rintro i σ' H' hi ⟨_, _, _, _, rfl, s2, _⟩
    exact s2 _ _ hp
  · rintro i σ' H' H'' hi ⟨v2, v3, v4, xs, rfl, s2, el, px⟩ s3
    have s4 := s2.trans s3
    have el := s3 _ _ el
    have px := p2_t s3.tup px
    walk_at "go"
    refine r_lenT (s4 _ _ hp) ?_
    rw [List.length_map]
    refine w_r2 (i + 1) c.length (fun j σ' H' => ∃ v4 xs, σ' = [some (.ref p), some (.ref l), some (nV i), some (nV (g c i)), v4] ∧ Same H H' ∧ H' l = some (.lst xs) ∧ Paired (P2 H') xs (tiesK c i ++ tieTo c i j)) rfl rfl (by omega) (by omega) ?_ ?_ ?_
    · exact ⟨_, xs, rfl, s4, el, by simpa [tieTo, pairTo] using px⟩
    · rintro j σ' H1 hj ⟨v4, ys, rfl, s5, el, py⟩
      have hz : ys.length < 100000 := by
        have h1 := Paired.length py
        have h2 := tiesK_len c i
        have h3 := tieTo_len c i j
        have h4 : i * c.length ≤ 10 * 10 := Nat.mul_le_mul (by omega) hc
        rw [h1, List.length_append]
        omega
      walk_at "go"
      refine ite2 (fun hb => ?_) (fun hb => ?_)
      · walk_at "go"
        refine r_tyL el ?_
        walk_at "go"
        refine ⟨by show 2 ≤ sizeLine; decide, fun T nT => ?_⟩
        obtain ⟨s6, eT⟩ := layT nT [nV i, nV (i + 1 + j)]
        walk_at "go"
        refine r_append (s6 _ _ el) hz ?_
        refine ⟨_, _, rfl, (s5.trans s6).chg nl, upd_same, ?_⟩
        have t7 := TSame.lst (o := .lst (ys ++ [V.ref T])) (s6 _ _ el)
        rw [tieTo_yes hb, ← List.append_assoc]
        exact Paired.snoc (p2_t (s6.tup.trans t7) py) ⟨T, rfl, t7 _ _ eT⟩
      · walk_at "go"
        exact ⟨_, _, rfl, s5, el, by rw [tieTo_no hb]; exact py⟩
    · rintro σ' H1 ⟨v4, ys, rfl, s5, el, py⟩
      exact ⟨_, _, _, _, rfl, s5, el, by rw [tiesK_succ]; exact py⟩
  · rintro σ' H' ⟨v2, v3, v4, xs, rfl, s2, el, px⟩
    rw [← ties_eq] at px
    walk_at "go"
    refine r_tupOf el fun q nq => ?_
    obtain ⟨s3, eq⟩ := layT nq xs
    exact k _ _ (s2.trans s3) ⟨q, _, rfl, eq, p2_t s3.tup px⟩
theorem set_map {c : List Nat} {i v : Nat} : (c.map nV).set i (nV v) = (c.set i v).map nV := List.map_set.symm
def sp_placed_core (K : PySem.W.Frag) : Sp := fun vs H Q _ => ∃ (p q : V) (c : Core) (o : List Nat) (n : Nat), vs = [p, q] ∧ IT H p c ∧ IT H q o ∧ Good n c ∧ IsOrd n o ∧ n ≤ 10 ∧ Res H Q fun v H' => IT H' v (moved n c o)
theorem c_placed_core (B : Bi mg) (D : DB K mg "placed_core" s_placed_core ["core", "order"]) : C8.Cal P w K mg base 1 "placed_core" (sp_placed_core K) [] := by
  obtain ⟨f, fd, F, b⟩ := D.ex
  have nd := sc_placed_core.nd
  refine C8.cal0 F b .nil sc_placed_core (fun vs H Q E h => by obtain ⟨p, q, c, o, n, rfl, _⟩ := h; rfl) fun cdv A outer s H vs Q E hr h => ?_
  obtain ⟨_, _, c, o, n, rfl, ⟨p, rfl, hp⟩, ⟨q, rfl, hq⟩, hg, ho, hn, k⟩ := h
  refine ⟨(tSeq (tAsg (tLc (iTup K (tVar 0)) (gName 4) tYes (tC (.int 0)) [4]) (gName 2))
      (tSeq (tFor (iEnumT K (tCons (tVar 0) tNil)) (gTup K 2 (gCons (gName 3) (gCons (gName 4) gNil))) (tFor (iEnumT K (tCons (tVar 1) tNil)) (gTup K 2 (gCons (gName 5) (gCons (gName 6) gNil))) (tIfS (tTest (tOp rEq (tOp rAndT (tOp rShrT (tVar 4) (tVar 5)) (tC (.int 1))) (tC (.int 1)))) (tAsg (tOp rOrT (tOp (rIxL K) (tVar 2) (tOp (rIxT K) (tVar 1) (tVar 3))) (tOp rShlT (tC (.int 1)) (tVar 6))) (gSub (tVar 2) (tOp (rIxT K) (tVar 1) (tVar 3)) rSetL)) tNext)))
      (tRet (tCB (rTupOf K) (tCons (tVar 2) tNil))))),
      (pss_cons (ps_setLc (i := 2) (own := [("mask", 4)]) (g := (gName 4)) (tt := tYes) (te := (tC (.int 0))) rfl nd rfl rfl (sw_true rfl rfl rfl (by decide +kernel)) (pi_tup (pv 0)) (blkOk_by (N := ["core", "order", "after", "k", "mask", "other", "place"]) (sc := C8.fnScope s_placed_core) (own := [("mask", 4)]) (by decide +kernel)) (fun _ _ _ _ _ => (pg_name (i := 4) nd rfl (by first | exact Or.inl rfl | exact Or.inr rfl))) (fun _ _ _ _ _ => pts_nil) (fun _ _ _ _ _ => pe_int))
      (pss_cons (ps_for PassesOwn.never rfl (pi_enumT (by rfl) B.enumerate (pa_cons (pv 0) pa_nil)) (pg_tup rfl (pgs_cons (pg_name (i := 3) nd rfl (by first | exact Or.inl rfl | exact Or.inr rfl)) (pgs_cons (pg_name (i := 4) nd rfl (by first | exact Or.inl rfl | exact Or.inr rfl)) pgs_nil))) (pss_one (ps_for PassesOwn.never rfl (pi_enumT (by rfl) B.enumerate (pa_cons (pv 1) pa_nil)) (pg_tup rfl (pgs_cons (pg_name (i := 5) nd rfl (by first | exact Or.inl rfl | exact Or.inr rfl)) (pgs_cons (pg_name (i := 6) nd rfl (by first | exact Or.inl rfl | exact Or.inr rfl)) pgs_nil))) (pss_one (ps_if (pt_cmpR op_eq (pe_op op_andT (pe_op op_shrT (pv 4) (pv 5)) pe_int) pe_int (nomark _)) (pss_one (ps_asg (pe_op op_orT (pe_ix ix_list (pv 2) (pe_ix ix_tup (pv 1) (pv 3) (fun _ _ => rfl)) (fun _ _ => rfl)) (pe_op op_shlT pe_int (pv 6))) (pg_sub (pv 2) (pe_ix ix_tup (pv 1) (pv 3) (fun _ _ => rfl)) set_list))) pss_nil)))))
      (pss_one (ps_ret (pe_callTy call_tuple_of (by rfl) B.tuple (by decide +kernel) (pa_cons (pv 2) pa_nil)))))), ?_⟩
  change tSeq _ _ _ [some (V.ref p), some (V.ref q), none, none, none, none, none] H
  walk_at "go"
  refine c_t (xs := c.map nV) (fun i acc _ => acc = List.replicate i (nV 0)) (fun _ _ _ _ _ e => e) hp rfl (fun D acc i x H' hD hx hi s e z r => ?_) (fun l H' acc nl s1 hl _ ea => ?_)
  · refine ⟨rfl, ?_⟩
    walk_at "go"
    refine iteT ?_
    walk_at "go"
    refine lc_yes (fun _ _ _ _ _ e => e) hD s e z ?_ ?_
    · rw [List.length_map, hg.1] at hi
      omega
    · rw [r, List.replicate_succ']
      rfl
  subst ea
  rw [List.length_map, hg.1] at hl
  have e0 : List.replicate n (nV 0) = (mvK c o n 0).map nV := by
    rw [mvK, List.map_replicate]
  rw [e0] at hl
  walk_at "go"
  refine r_forE (a := p) (ns := c) (fun i σ' H' => ∃ v3 v4 v5 v6, σ' = [some (.ref p), some (.ref q), some (.ref l), v3, v4, v5, v6] ∧ Same H H' ∧ H' l = some (.lst ((mvK c o n i).map nV))) rfl (s1 _ _ hp) ?_ ?_ ?_ ?_
  · exact ⟨_, _, _, _, rfl, s1, hl⟩
  · rintro i σ' H' hi ⟨_, _, _, _, rfl, s2, _⟩
    exact s2 _ _ hp
  · rintro i σ' H1 H'' hi ⟨v3, v4, v5, v6, rfl, s2, el⟩ s3
    have s4 := s2.trans s3
    have el := s3 _ _ el
    have hi' : i < n := by rw [← hg.1]; exact hi
    have hgo := ho.get_lt hi'
    refine r_forE (a := q) (ns := o) (fun j σ' H' => ∃ v5 v6, σ' = [some (.ref p), some (.ref q), some (.ref l), some (nV i), some (nV (g c i)), v5, v6] ∧ Same H H' ∧ H' l = some (.lst (((mvK c o n i).set (g o i) (mvJ c o i j)).map nV))) rfl (s4 _ _ hq) ?_ ?_ ?_ ?_
    · refine ⟨_, _, rfl, s4, ?_⟩
      have e1 : (mvK c o n i).set (g o i) (mvJ c o i 0) = mvK c o n i := by
        refine g_ext (List.length_set ..) fun t ht => ?_
        by_cases e : g o i = t
        · subst e
          rw [g_set_self (by rw [mvK_len]; exact hgo), mvK_at ho c hi' i (by omega), if_neg (by omega)]
          rfl
        · rw [g_set_ne e]
      rw [e1]
      exact el
    · rintro j σ' H' hj ⟨_, _, rfl, s5, _⟩
      exact s5 _ _ hq
    · rintro j σ' H2 H3 hj ⟨v5, v6, rfl, s5, el⟩ s6
      have s7 := s5.trans s6
      have el := s6 _ _ el
      have hj' : j < n := by rw [← ho.len]; exact hj
      have hl1 : g o i < ((mvK c o n i).set (g o i) (mvJ c o i j)).length := by rw [List.length_set, mvK_len]; exact hgo
      walk_at "go"
      refine ite2 (fun hb => ?_) (fun hb => ?_)
      · walk_at "go"
        refine r_ixT (s7 _ _ hq) (ns_at (by rw [ho.len]; exact hi')) ?_
        walk_at "go"
        refine r_ixL el (ns_at hl1) ?_
        walk_at "go"
        have := ho.get_lt hj'
        refine r_shl (by omega) ?_
        walk_at "go"
        refine r_ixT (s7 _ _ hq) (ns_at (by rw [ho.len]; exact hi')) ?_
        refine r_setL el (by rw [List.length_map]; exact hl1) ?_
        refine ⟨_, _, rfl, s7.chg nl, ?_⟩
        rw [upd_same, set_map, g_set_self (by rw [mvK_len]; exact hgo), List.set_set]
        rw [mvJ, if_pos hb]
      · walk_at "go"
        refine ⟨_, _, rfl, s7, ?_⟩
        rw [mvJ, if_neg hb]
        exact el
    · rintro σ' H2 ⟨v5, v6, rfl, s5, el⟩
      rw [ho.len] at el
      exact ⟨_, _, _, _, rfl, s5, el⟩
  · rintro σ' H1 ⟨v3, v4, v5, v6, rfl, s2, el⟩
    walk_at "go"
    refine r_tupOf el fun r nr => ?_
    obtain ⟨s3, er⟩ := layT nr ((mvK c o n c.length).map nV)
    refine k _ _ (s2.trans s3) ⟨r, rfl, ?_⟩
    rw [er, hg.1]
    rfl
end
end K81
end

section
open PySem PySem.Spec PyProof.Rows L2

namespace K81
local macro_rules | `(tactic| walk_at "s1") => `(tactic| first
  | with_reducible refine r_seq ?_
  | with_reducible refine r_asg ?_
  | with_reducible refine r_ret ?_
  | with_reducible refine r_if ?_
  | with_reducible refine r_app ?_
  | with_reducible refine r_drop ?_
  | with_reducible refine r_asgS ?_
  | with_reducible refine r_op ?_
  | with_reducible refine r_c ?_
  | ((with_reducible refine' r_var ?hv ?_); (case hv => exact rfl))
  | with_reducible refine r_cb ?_
  | with_reducible refine r_cons ?_
  | with_reducible refine r_nil ?_
  | with_reducible refine r_test ?_
  | with_reducible refine r_tB ?_
  | with_reducible refine r_not ?_
  | with_reducible refine r_and ?_
  | with_reducible refine r_or ?_
  | with_reducible refine r_call ?_
  | with_reducible refine r_tup ?_
  | with_reducible refine r_for1 ?_
  | with_reducible refine r_for2 ?_
  | with_reducible refine r_forT ?_
  | with_reducible refine r_forL ?_
  | with_reducible refine r_lc1 ?_
  | with_reducible refine r_lcT ?_
  | with_reducible refine r_lcL ?_
  | with_reducible refine r_lcE ?_
  | with_reducible refine r_lst ?_
  | with_reducible refine r_yes ?_
  | with_reducible refine r_next ?_
  | with_reducible refine r_nat ?_
  | with_reducible refine r_nat1 ?_
  | with_reducible refine r_i0 ?_
  | with_reducible refine r_int1 ?_
  | ((with_reducible refine' r_eq ?hs ?_); (case hs => exact rfl))
  | ((with_reducible refine' r_ne ?hs ?_); (case hs => exact rfl))
  | with_reducible refine r_bitT ?_
  | with_reducible refine r_bl ?_)
local macro_rules | `(tactic| walk_at "go") => `(tactic| repeat walk_at "s1")

abbrev s_orders_of : Stmt := topS 32
theorem sc_orders_of : FnScope ["count", "orders", "_", "order", "k"] ["count"] (C8.fnScope s_orders_of) := C8.fnScope_by (by decide +kernel)

section
variable {P : Program} {w : World} {K : PySem.W.Frag} {mg : Str → Option Value} {base : Heap}
def Lc2I (H1 : Hp) (D : Addr) (n : Nat) (RR : Nat → Nat → List V → Hp → Prop) (i j : Nat) (H : Hp) : Prop := Same H1 H ∧ ∃ acc, H D = some (.lst acc) ∧ acc.length ≤ i * n + j ∧ RR i j acc H
theorem c_lr2 {tl : TE} {tt1 : TT} {te : TE} {vs vs1 : List Nat} {σ : L2.St} {H : Hp} {Q : VK} {a : Addr} {xs : List V} {io ik n : Nat} {tc : TE} (RR : Nat → Nat → List V → Hp → Prop) (m : ∀ i j acc H H', TSame H H' → RR i j acc H → RR i j acc H')
    (hn : xs.length ≤ 5000) (hn2 : n ≤ 10) (htl : ∀ R : V → Hp → Prop, R (.ref a) H → tl σ H R) (ha : H a = some (.lst xs)) (h0 : RR 0 0 [] H) (hw : ∀ x, wipe ((wipe σ vs).set io (some x)) vs = wipe σ vs)
    (hc : ∀ (x : V) (H' : Hp) (R : V → Hp → Prop), R (nV n) H' → tc ((wipe σ vs).set io (some x)) H' R)
    (hs : ∀ D acc i j x H', H D = none → xs[i]? = some x → i < xs.length → j < n → Same H H' → H' D = some (.lst acc) → acc.length < 60000 → RR i j acc H' →
      wipe ((wipe ((wipe σ vs).set io (some x)) vs1).set ik (some (nV j))) vs1 = wipe ((wipe σ vs).set io (some x)) vs1 ∧ tt1 ((wipe ((wipe σ vs).set io (some x)) vs1).set ik (some (nV j))) H' fun b H6 =>
        if b = true then te ((wipe ((wipe σ vs).set io (some x)) vs1).set ik (some (nV j))) H6 fun y H7 => H7 D = some (.lst acc) ∧ Same H H7 ∧ RR i (j + 1) (acc ++ [y]) H7 else H6 D = some (.lst acc) ∧ Same H H6 ∧ RR i (j + 1) acc H6)
    (mt : ∀ σ H Q Q', (∀ b H1, Q b H1 → Q' b H1) → tt1 σ H Q → tt1 σ H Q') (me : ∀ σ H (Q Q' : VK), (∀ v H1, Q v H1 → Q' v H1) → te σ H Q → te σ H Q')
    (hrow : ∀ i acc H, i < xs.length → RR i n acc H → RR (i + 1) 0 acc H)
    (hd : ∀ D H' acc, H D = none → Same H H' → H' D = some (.lst acc) → RR xs.length 0 acc H' → Q (.ref D) H') :
    tLc2 (iList K tl) (gName io) tYes (iRng1 (tCons tc tNil)) (gName ik) tt1 te vs vs1 σ H Q := by
  refine htl _ ?_
  refine ⟨a, rfl, ⟨xs, SqL.of ha⟩, fun D hD => ?_⟩
  have wl := walk_list (K := K) (a := a) (xs := xs)
  refine ⟨fun i m H' => m = xs.length - i ∧ i ≤ xs.length ∧ Lc2I H D n RR i 0 H', ⟨_, rfl, Nat.zero_le _, Same.lay hD, [], upd_same, Nat.zero_le _, m _ _ _ _ _ (Same.lay hD).tup h0⟩, ?_⟩
  rintro i m1 H1 ⟨rfl, hi, s1, acc, e1, z1, r1⟩
  by_cases hlt : i < xs.length
  · refine .inr ⟨wl.goes i H1 hlt (SqL.of (s1 _ _ ha)), Lc2I H D n RR (i + 1) 0, fun H' p => ⟨_, by omega, rfl, hlt, p⟩, fun x H' y => ?_⟩
    obtain ⟨rfl, hx⟩ := wl.yields i H1 x H' hlt (SqL.of (s1 _ _ ha)) y
    refine ⟨hw x, ?_⟩
    refine r_yes ?_
    refine iteT ?_
    refine hc x H' _ ?_
    refine ⟨n, rfl, by omega, by omega, ?_⟩
    rw [Int.toNat_natCast]
    refine ⟨fun j k H2 => k = n - j ∧ j ≤ n ∧ Lc2I H D n RR i j H2, ⟨_, rfl, Nat.zero_le _, s1, acc, e1, z1, r1⟩, ?_⟩
    rintro j k H2 ⟨rfl, hj, s2, acc2, e2, z2, r2⟩
    by_cases hjn : j < n
    · refine .inr ⟨hjn, Lc2I H D n RR i (j + 1), fun H3 p => ⟨_, by omega, rfl, hjn, p⟩, fun x2 H3 y2 => ?_⟩
      obtain ⟨rfl, rfl⟩ := y2
      rw [Int.zero_add]
      have hz : i * n ≤ 5000 * 10 := Nat.mul_le_mul (by omega) hn2
      obtain ⟨hw3, ht⟩ := hs D acc2 i j x H3 hD hx hlt hjn s2 e2 (by omega) r2
      refine ⟨hw3, mt _ _ _ _ (fun b H6 q => ?_) ht⟩
      cases b with
      | true =>
        rw [if_pos rfl] at q
        refine iteT (me _ _ _ _ (fun v H7 q => ?_) q)
        obtain ⟨e7, s7, r7⟩ := q
        exact ⟨acc2, e7, Nat.lt_of_lt_of_le (show acc2.length < 100000 by omega) (by decide), s7.chg hD, _, upd_same, by rw [List.length_append, List.length_singleton]; omega, m _ _ _ _ _ (TSame.lst e7) r7⟩
      | false =>
        rw [if_neg Bool.false_ne_true] at q
        refine iteF ?_
        obtain ⟨e7, s7, r7⟩ := q
        exact ⟨s7, acc2, e7, by omega, r7⟩
    · have ej : j = n := by omega
      subst ej
      refine .inl ⟨Nat.le_refl _, s2, acc2, e2, ?_, hrow _ _ _ hlt r2⟩
      rw [Nat.succ_mul]
      omega
  · have e : i = xs.length := by omega
    subst e
    exact .inl ⟨wl.stops H1 (SqL.of (s1 _ _ ha)), hd D H1 acc hD s1 e1 r1⟩
def sp_orders_of (K : PySem.W.Frag) : Sp := fun vs H Q _ => ∃ n : Nat, vs = [nV n] ∧ n ≤ 5 ∧ Res H Q fun v H' => LstOf IT H' v (orders n)
theorem c_orders_of (B : Bi mg) (D : DB K mg "orders_of" s_orders_of ["count"]) : C8.Cal P w K mg base 1 "orders_of" (sp_orders_of K) [] := by
  obtain ⟨f, fd, F, b⟩ := D.ex
  have nd := sc_orders_of.nd
  refine C8.cal0 F b .nil sc_orders_of (fun vs H Q E h => by obtain ⟨n, rfl, _⟩ := h; rfl) fun cdv A outer s H vs Q E hr h => ?_
  obtain ⟨n, rfl, hn, k⟩ := h
  refine ⟨(tSeq (tAsg (tLst (tCons (tTup tNil) tNil)) (gName 1))
      (tSeq (tFor (iRng1 (tCons (tVar 0) tNil)) (gName 2) (tAsg (tLc2 (iList K (tVar 1)) (gName 3) tYes (iRng1 (tCons (tVar 0) tNil)) (gName 4) (tTest (tOp (rIn K true) (tVar 4) (tVar 3))) (tTup (StX.tStar K (tVar 3) (tCons (tVar 4) tNil))) [3, 4] [4]) (gName 1)))
      (tRet (tVar 1)))),
      (pss_cons (ps_set (i := 1) nd rfl (by first | exact Or.inl rfl | exact Or.inr rfl) (pe_lst (pa_cons (pe_tup pa_nil) pa_nil)))
      (pss_cons (ps_for PassesOwn.never rfl (pi_range1 (by rfl) B.range (pa_cons (pv 0) pa_nil)) (pg_name (i := 2) nd rfl (by first | exact Or.inl rfl | exact Or.inr rfl)) (pss_one (ps_setLc2 (i := 1) (own := [("order", 3), ("k", 4)]) (vs1 := [4]) (g := (gName 3)) (tt := tYes) (wi1 := (iRng1 (tCons (tVar 0) tNil))) (g1 := (gName 4)) (tt1 := (tTest (tOp (rIn K true) (tVar 4) (tVar 3)))) (te := (tTup (StX.tStar K (tVar 3) (tCons (tVar 4) tNil)))) rfl nd rfl rfl (sw_true rfl rfl rfl (by decide +kernel)) (pi_list (pv 1)) (blkOk_by (N := ["count", "orders", "_", "order", "k"]) (sc := C8.fnScope s_orders_of) (own := [("order", 3), ("k", 4)]) (by decide +kernel)) (by decide) (fun _ _ _ _ _ => (pg_name (i := 3) nd rfl (by first | exact Or.inl rfl | exact Or.inr rfl))) (fun _ _ _ _ _ => pts_nil) (fun _ _ _ _ _ => (pi_range1 (by rfl) B.range (pa_cons (pv 0) pa_nil))) (fun _ _ _ _ _ => (pg_name (i := 4) nd rfl (by first | exact Or.inl rfl | exact Or.inr rfl))) (fun _ _ _ _ _ => (pts_one (pt_cmpR op_notIn_seq (pv 4) (pv 3) rfl))) (fun _ _ _ _ _ => (pe_tup (StX.pa_star (pv 3) (pa_cons (pv 4) pa_nil)))))))
      (pss_one (ps_ret (pv 1))))), ?_⟩
  change tSeq _ _ _ [some (nV n), none, none, none, none] H
  walk_at "go"
  refine ⟨Nat.zero_le _, fun e ne => ?_⟩
  obtain ⟨s0, he⟩ := layT ne []
  walk_at "go"
  refine ⟨by show 1 ≤ sizeLine; decide, fun l nl => ?_⟩
  obtain ⟨s1, hl⟩ := layL nl [V.ref e]
  walk_at "go"
  refine w_r1 (n := n) (fun t σ' H' => ∃ l v2 xs, σ' = [some (nV n), some (V.ref l), v2, none, none] ∧ Same H H' ∧ H' l = some (.lst xs) ∧ Paired (IT H') xs (ordK n t)) (by omega) ?_ ?_ ?_
  · exact ⟨l, _, _, rfl, s0.trans s1, hl, .cons ⟨e, rfl, s1 _ _ he⟩ .nil⟩
  · rintro t σ' H1 ht ⟨l, v2, xs, rfl, s2, el, px⟩
    have hxl : xs.length = (ordK n t).length := Paired.length px
    have hfew := ordK_few (n := n) (j := t) hn (by omega)
    walk_at "go"
    refine c_lr2 (n := n) (fun i j acc H' => Paired (IT H') acc (ordsTo n (ordK n t) i ++ ordTo ((ordK n t).getD i []) j)) (fun _ _ _ _ _ e p => it_t e p) (by omega) (by omega) (fun R q => ⟨_, rfl, q⟩) el .nil (fun _ => rfl) (fun x H' R q => ⟨_, rfl, q⟩) ?_ ?_ ?_ ?_ ?_
    · intro D acc i j x H2 hD hx hi hj s3 eD hz r
      have hi' : i < (ordK n t).length := by omega
      obtain ⟨x', hx', a, rfl, hax⟩ := K81.Paired.get px (List.getElem?_eq_getElem hi')
      rw [hx] at hx'
      cases hx'
      have hgd : (ordK n t).getD i [] = (ordK n t)[i] := by simp [List.getD, hi']
      have hax := s3 _ _ hax
      have hlen := (ordK_ok n t _ (List.getElem_mem hi')).1
      rw [hgd] at r ⊢
      refine ⟨rfl, ?_⟩
      walk_at "go"
      refine r_niT hax ?_
      walk_at "go"
      by_cases hm : j ∈ (ordK n t)[i]
      · rw [decide_eq_true hm]
        exact ⟨eD, s3, by rw [ordTo_no hm]; exact r⟩
      · rw [decide_eq_false hm]
        refine iteT ?_
        walk_at "go"
        refine ⟨_, rfl, a, _, rfl, .inl (SqT.of hax), ?_⟩
        walk_at "go"
        refine ⟨?_, fun p np => ?_⟩
        · rw [List.length_append, List.length_map, hlen]
          exact Nat.le_trans (show t + 1 ≤ 100000 by omega) (by decide)
        · obtain ⟨s4, ep⟩ := layT np (((ordK n t)[i]).map nV ++ [nV j])
          refine ⟨s4 _ _ eD, s3.trans s4, ?_⟩
          rw [ordTo_yes hm, ← List.append_assoc]
          refine Paired.snoc (it_t s4.tup r) ⟨p, rfl, ?_⟩
          rw [ep, List.map_append]
          rfl
    · intro σ H Q Q' h ht
      obtain ⟨v, e1, w, e2, p, xs, e3, e4, e5, e6, kk, e7, q⟩ := ht
      exact ⟨v, e1, w, e2, p, xs, e3, e4, e5, e6, kk, e7, h _ _ q⟩
    · intro σ H Q Q' h ht
      obtain ⟨v, e1, p, xs, e2, e3, w, e4, z, q⟩ := ht
      exact ⟨v, e1, p, xs, e2, e3, w, e4, z, fun p hp => h _ _ (q p hp)⟩
    · intro i acc H' hi p
      have hi' : i < (ordK n t).length := by omega
      have hgd : (ordK n t).getD i [] = (ordK n t)[i] := by simp [List.getD, hi']
      rw [ordsTo_succ (List.getElem?_eq_getElem hi'), ← hgd]
      show Paired (IT H') acc ((ordsTo n (ordK n t) i ++ ordTo ((ordK n t).getD i []) n) ++ [])
      rw [List.append_nil]
      exact p
    · intro D H' acc hD s3 eD p
      refine ⟨D, _, acc, rfl, s2.trans s3, eD, ?_⟩
      have p : Paired (IT H') acc (ordsTo n (ordK n t) xs.length ++ []) := p
      rw [hxl, ordsTo_all, List.append_nil] at p
      exact p
  · rintro σ' H1 ⟨l, v2, xs, rfl, s2, el, px⟩
    walk_at "go"
    exact k _ _ s2 ⟨l, xs, rfl, el, px⟩
end
end K81
end

section
open PySem PySem.Spec PyProof.Rows L2

namespace K81
local macro_rules | `(tactic| walk_at "s1") => `(tactic| first
  | with_reducible refine r_seq ?_
  | with_reducible refine r_asg ?_
  | with_reducible refine r_ret ?_
  | with_reducible refine r_if ?_
  | with_reducible refine r_app ?_
  | with_reducible refine r_drop ?_
  | with_reducible refine r_asgS ?_
  | with_reducible refine r_op ?_
  | with_reducible refine r_c ?_
  | ((with_reducible refine' r_var ?hv ?_); (case hv => exact rfl))
  | with_reducible refine r_cb ?_
  | with_reducible refine r_cons ?_
  | with_reducible refine r_nil ?_
  | with_reducible refine r_test ?_
  | with_reducible refine r_tB ?_
  | with_reducible refine r_not ?_
  | with_reducible refine r_and ?_
  | with_reducible refine r_or ?_
  | with_reducible refine r_call ?_
  | with_reducible refine r_tup ?_
  | with_reducible refine r_for1 ?_
  | with_reducible refine r_for2 ?_
  | with_reducible refine r_forT ?_
  | with_reducible refine r_forL ?_
  | with_reducible refine r_lc1 ?_
  | with_reducible refine r_lcT ?_
  | with_reducible refine r_lcL ?_
  | with_reducible refine r_lcE ?_
  | with_reducible refine r_lst ?_
  | with_reducible refine r_yes ?_
  | with_reducible refine r_next ?_
  | with_reducible refine r_nat ?_
  | with_reducible refine r_nat1 ?_
  | with_reducible refine r_i0 ?_
  | with_reducible refine r_int1 ?_
  | ((with_reducible refine' r_eq ?hs ?_); (case hs => exact rfl))
  | ((with_reducible refine' r_ne ?hs ?_); (case hs => exact rfl))
  | with_reducible refine r_bitT ?_
  | with_reducible refine r_bl ?_)
local macro_rules | `(tactic| walk_at "go") => `(tactic| repeat walk_at "s1")

abbrev s_is_name : Stmt := topS 17
theorem sc_is_name : FnScope ["text", "char"] ["text"] (C8.fnScope s_is_name) := C8.fnScope_by (by decide +kernel)
abbrev s_ordered_points : Stmt := topS 19
theorem sc_ordered_points : FnScope ["points", "known", "name"] ["points"] (C8.fnScope s_ordered_points) := C8.fnScope_by (by decide +kernel)

/-! ### names -/
def sLETTERS : Str := "abcdefghijklmnopqrstuvwxyz"
def sDIGITS : Str := "0123456789"
def LET : List Nat := (List.range 26).map (97 + ·)
def DIG : List Nat := (List.range 10).map (48 + ·)
theorem let_eq : sLETTERS.cps.toList = LET := by decide +kernel
theorem dig_eq : sDIGITS.cps.toList = DIG := by decide +kernel
structure Valid (s : Str) : Prop where
  len : s.cps.toList.length ≤ 8
  head : ∃ c r, s.cps.toList = c :: r ∧ c ∈ LET
  all : ∀ c ∈ s.cps.toList, c ∈ LET ∨ c ∈ DIG
structure Glob (mg : Str → Option Value) (CN CR : Addr) : Prop where
  LETTERS : ∃ u, mg "LETTERS" = some u ∧ RelV (.str sLETTERS) u
  DIGITS : ∃ u, mg "DIGITS" = some u ∧ RelV (.str sDIGITS) u
  LONGEST : ∃ u, mg "LONGEST" = some u ∧ RelV (.int 8) u
  Net : ∃ u, mg "Net" = some u ∧ RelV (.ref CN) u
  Renaming : ∃ u, mg "Renaming" = some u ∧ RelV (.ref CR) u
section
variable {P : Program} {w : World} {K : PySem.W.Frag} {mg : Str → Option Value} {base : Heap} {CN CR : Addr}
theorem str_len (s : Str) : s.length = s.cps.toList.length := by simp [Str.length]
def sp_is_name (K : PySem.W.Frag) : Sp := fun vs H Q _ => ∃ z : Str, vs = [.str z] ∧ Valid z ∧ Q (.bl true) H
theorem c_is_name (B : Bi mg) (T : Glob mg CN CR) (D : DB K mg "is_name" s_is_name ["text"]) : C8.Cal P w K mg base 1 "is_name" (sp_is_name K) [] := by
  obtain ⟨f, fd, F, b⟩ := D.ex
  have nd := sc_is_name.nd
  refine C8.cal0 F b .nil sc_is_name (fun vs H Q E h => by obtain ⟨z, rfl, _⟩ := h; rfl) fun cdv A outer s H vs Q E hr h => ?_
  obtain ⟨z, rfl, hv, k⟩ := h
  obtain ⟨c, r, ez, hc⟩ := hv.head
  have hl1 : z.length ≤ 8 := by rw [str_len]; exact hv.len
  have hl0 : 1 ≤ z.length := by rw [str_len, ez]; simp
  have hls : z.length ≤ sizeLine := Nat.le_trans hl1 (by decide)
  refine ⟨(tSeq (tIfS (tOr (tTest (tOp rLtI (tCB rLenStr (tCons (tVar 0) tNil)) (tC (.int 1)))) (tOr (tTest (tOp rGtI (tCB rLenStr (tCons (tVar 0) tNil)) (tC (.int 8)))) (tTest (tOp rNotInS (tOp rIxS (tVar 0) (tC (.int 0))) (tC (.str sLETTERS)))))) (tRet (tC (.bl false))) tNext)
      (tSeq (tFor (iStr (tVar 0)) (gName 1) (tIfS (tAnd (tTest (tOp rNotInS (tVar 1) (tC (.str sLETTERS)))) (tTest (tOp rNotInS (tVar 1) (tC (.str sDIGITS))))) (tRet (tC (.bl false))) tNext))
      (tRet (tC (.bl true))))),
      (pss_cons (ps_if (PW.pt (pw_or (pt_cmpR op_lt (pe_callB call_len_str (by rfl) B.len PySem.boot_len (pa_cons (pv 0) pa_nil)) pe_int (nomark _)) (pw_or (pt_cmpR op_gt (pe_callB call_len_str (by rfl) B.len PySem.boot_len (pa_cons (pv 0) pa_nil)) (C8.pe_gc rfl T.LONGEST) (nomark _)) (pw_or1 (pt_cmpR op_notIn_sign (pe_ix ix_str (pv 0) pe_int (fun _ _ => rfl)) (C8.pe_gc rfl T.LETTERS) rfl))))) (pss_one (ps_ret pe_bl)) pss_nil)
      (pss_cons (ps_for PassesOwn.never rfl (pi_str (pv 0)) (pg_name (i := 1) nd rfl (by first | exact Or.inl rfl | exact Or.inr rfl)) (pss_one (ps_if (PW.pt (pw_and (pt_cmpR op_notIn_sign (pv 1) (C8.pe_gc rfl T.LETTERS) rfl) (pw_and1 (pt_cmpR op_notIn_sign (pv 1) (C8.pe_gc rfl T.DIGITS) rfl)))) (pss_one (ps_ret pe_bl)) pss_nil)))
      (pss_one (ps_ret pe_bl)))), ?_⟩
  change tSeq _ _ _ [some (V.str z), none] H
  walk_at "go"
  refine ⟨z, rfl, hls, ?_⟩
  walk_at "go"
  rw [decide_eq_false (by omega)]
  refine iteF ?_
  walk_at "go"
  refine ⟨z, rfl, hls, ?_⟩
  walk_at "go"
  rw [decide_eq_false (by omega)]
  refine iteF ?_
  walk_at "go"
  refine ⟨z, 0, c, rfl, rfl, hls, atI_nat (j := 0) (by rw [ez]; rfl), ?_⟩
  walk_at "go"
  refine ⟨c, _, rfl, rfl, ?_⟩
  rw [let_eq, decide_eq_true hc]
  walk_at "go"
  refine iteF ?_
  walk_at "go"
  refine ⟨_, rfl, z, rfl, for_it (walk_str (z := z)) (fun i σ' H' => ∃ v1, σ' = [some (V.str z), v1] ∧ H' = H) ⟨none, rfl, rfl⟩ (fun _ _ _ _ _ => True.intro) ?_ ?_⟩
  · rintro i x σ' H1 H2 hi ⟨v1, rfl, rfl⟩ ⟨rfl, d, hd, rfl⟩
    have hdm : d ∈ z.cps.toList := by
      rw [Array.mem_toList_iff]
      exact Array.mem_of_getElem? hd
    show tIfS _ _ _ _ [some (V.str z), some (V.str ⟨#[d]⟩)] H2
    walk_at "go"
    refine ⟨d, _, rfl, rfl, ?_⟩
    walk_at "go"
    rw [let_eq]
    by_cases h1 : d ∈ LET
    · rw [decide_eq_true h1]
      refine iteF ?_
      refine iteF ?_
      exact ⟨_, rfl, rfl⟩
    · rw [decide_eq_false h1]
      refine iteT ?_
      walk_at "go"
      refine ⟨d, _, rfl, rfl, ?_⟩
      rw [dig_eq, decide_eq_true ((hv.all d hdm).resolve_left h1)]
      walk_at "go"
      refine iteF ?_
      exact ⟨_, rfl, rfl⟩
  · rintro σ' H1 ⟨v1, rfl, rfl⟩
    walk_at "go"
    exact k
theorem not_mem_take {α : Type} {ss : List α} {i : Nat} {s : α} (nd : ss.Nodup) (h : ss[i]? = some s) : s ∉ ss.take i := by
  intro hm
  obtain ⟨j, hj, e⟩ := List.mem_iff_getElem.mp hm
  rw [List.length_take] at hj
  have hi := (List.getElem?_eq_some_iff.mp h).1
  rw [List.getElem_take] at e
  have h2 : ss[j]? = some s := by rw [List.getElem?_eq_getElem (by omega), e]
  have := (List.getElem?_inj (by omega) nd).mp (h2.trans h.symm)
  omega
def kvT (ss : List Str) : List (Key × V) := ss.map fun s => (Sum.inr s, V.bl true)
theorem kvT_no {ss : List Str} {s : Str} (h : s ∉ ss) : valV (kvT ss) (Sum.inr s) = none := by
  induction ss with
  | nil => rfl
  | cons x r ih =>
    rw [List.mem_cons, not_or] at h
    show valV ((Sum.inr x, V.bl true) :: kvT r) (Sum.inr s) = none
    rw [valV_neg (fun e => h.1 (Sum.inr.inj e).symm)]
    exact ih h.2
theorem kvT_snoc (ss : List Str) (i : Nat) (s : Str) (h : ss[i]? = some s) : kvT (ss.take (i + 1)) = kvT (ss.take i) ++ [(Sum.inr s, V.bl true)] := by
  rw [List.take_add_one, h]
  simp [kvT]
def AnyS (H : Hp) (v : V) (ss : List Str) : Prop := ∃ a, v = .ref a ∧ (H a = some (.lst (ss.map V.str)) ∨ ∃ o, H a = some (.frz o (.tup (ss.map V.str))))
def sp_ordered_points (K : PySem.W.Frag) : Sp := fun vs H Q _ => ∃ (v : V) (ss : List Str), vs = [v] ∧ AnyS H v ss ∧ (∀ s ∈ ss, Valid s) ∧ ss.Nodup ∧ ss.length ≤ 10 ∧
  Res H Q fun v H' => ∃ ys : List Str, ys.Perm ss ∧ sortedS ys = true ∧ PtsT H' v ys
theorem c_ordered_points (B : Bi mg) (c_is_name : C8.Cal P w K mg base 1 "is_name" (sp_is_name K) []) (D : DB K mg "ordered_points" s_ordered_points ["points"]) : C8.Cal P w K mg base 2 "ordered_points" (sp_ordered_points K) [] := by
  obtain ⟨f, fd, F, b⟩ := D.ex
  have nd := sc_ordered_points.nd
  refine C8.cal0 F b .nil sc_ordered_points (fun vs H Q E h => by obtain ⟨v, ss, rfl, _⟩ := h; rfl) fun cdv A outer s H vs Q E hr h => ?_
  obtain ⟨_, ss, rfl, ⟨a, rfl, ha⟩, hv, hnd, hl, k⟩ := h
  refine ⟨(tSeq (tAsg tDNewK (gName 1))
      (tSeq (tFor (iAny K (tVar 0)) (gName 2) (tSeq (tIfS (tNot (tB (tCall (sp_is_name K) [] C8.E0 (tCons (tVar 2) tNil)))) tNever tNext)
        (tSeq (tIfS (tB (tDIn (tVar 2) (tVar 1))) tNever tNext)
        (sDPut (tVar 1) (tVar 2) (tC (.bl true))))))
      (tRet (tCB (rTupF K) (tCons (tCB (rSortedS K) (tCons (tCB rListD (tCons (tVar 1) tNil)) tNil)) tNil))))),
      (pss_cons (ps_set (i := 1) nd rfl (by first | exact Or.inl rfl | exact Or.inr rfl) pe_dnewK)
      (pss_cons (ps_for PassesOwn.never rfl (pi_any (pv 0)) (pg_name (i := 2) nd rfl (by first | exact Or.inl rfl | exact Or.inr rfl)) (pss_cons (ps_if (pt_not (pt_val (C8.pe_c c_is_name hr (by decide) rfl (pa_cons (pv 2) pa_nil)))) (pss_one ps_never) pss_nil)
        (pss_cons (ps_if (pt_cmp (pc_din (hu_of hr) (pv 2) (pv 1)) rfl) (pss_one ps_never) pss_nil)
        (pss_one (ps_dput (hu_of hr) (pv 1) (pv 2) pe_bl rfl)))))
      (pss_one (ps_ret (pe_callTy call_tupleF (by rfl) B.tuple (by decide +kernel) (pa_cons (pe_callB cr_sortedS (by rfl) B.sorted (by decide +kernel) (pa_cons (pe_callTy (call_list_dK rfl) (by rfl) B.list (by decide +kernel) (pa_cons (pv 1) pa_nil)) pa_nil)) pa_nil)))))), ?_⟩
  change tSeq _ _ _ [some (V.ref a), none, none] H
  refine r_seq ?_
  refine r_asg ?_
  intro d nd0
  have s1 : Same H (upd H d (.dK [])) := Same.lay nd0
  have hd : upd H d (.dK []) d = some (.dK []) := upd_same
  walk_at "go"
  have Pv0 : ∃ v2, [some (V.ref a), some (V.ref d), none] = [some (V.ref a), some (V.ref d), v2] ∧ Same H (upd H d (.dK [])) ∧ upd H d (.dK []) d = some (.dK (kvT (ss.take 0))) := ⟨_, rfl, s1, hd⟩
  have turn : ∀ (D : Ends) (i : Nat) (x : V) (σ' : L2.St) (H' : Hp), (ss.map V.str)[i]? = some x → (∃ v2, σ' = [some (V.ref a), some (V.ref d), v2] ∧ Same H H' ∧ H' d = some (.dK (kvT (ss.take i)))) →
      (∀ σ' H', (∃ v2, σ' = [some (V.ref a), some (V.ref d), v2] ∧ Same H H' ∧ H' d = some (.dK (kvT (ss.take (i + 1))))) → D.nx σ' H') →
      (tSeq (tIfS (tNot (tB (tCall (sp_is_name K) [] C8.E0 (tCons (tVar 2) tNil)))) tNever tNext) (tSeq (tIfS (tB (tDIn (tVar 2) (tVar 1))) tNever tNext) (sDPut (tVar 1) (tVar 2) (tC (.bl true))))) D (σ'.set 2 (some x)) H' := by
    rintro D i x σ' H' hx ⟨v2, rfl, s2, ed⟩ next
    rw [List.getElem?_map] at hx
    cases hz : ss[i]? with
    | none => rw [hz] at hx; cases hx
    | some z =>
      rw [hz] at hx
      cases hx
      have hno := kvT_no (not_mem_take hnd hz)
      walk_at "go"
      refine ⟨z, rfl, hv z (List.mem_of_getElem? hz), ?_⟩
      walk_at "go"
      refine iteF ?_
      walk_at "go"
      refine ⟨_, rfl, _, rfl, d, none, rfl, ?_, ?_⟩
      · have := DGet.k (k := Sum.inr z) ed
        rw [hno] at this
        exact this
      walk_at "go"
      refine iteF ?_
      refine ⟨_, rfl, _, rfl, d, _, rfl, DPut.k (k := Sum.inr z) ed ?_, ?_⟩
      · simp only [kvT, List.length_map, List.length_take]
        exact Nat.lt_of_le_of_lt (show min i ss.length ≤ 10 by omega) (by decide)
      · refine next _ _ ⟨_, rfl, ?_, ?_⟩
        · exact s2.chg nd0
        · rw [upd_same, putK_new _ hno, kvT_snoc ss i z hz]
  have fin : ∀ σ' H', (∃ v2, σ' = [some (V.ref a), some (V.ref d), v2] ∧ Same H H' ∧ H' d = some (.dK (kvT (ss.take (ss.map V.str).length)))) → (tRet (tCB (rTupF K) (tCons (tCB (rSortedS K) (tCons (tCB rListD (tCons (tVar 1) tNil)) tNil)) tNil))) { nx := fun _ H' => Q .non H', rt := Q } σ' H' := by
    rintro σ' H' ⟨v2, rfl, s2, ed⟩
    rw [List.take_of_length_le (by simp)] at ed
    walk_at "go"
    refine ⟨d, _, rfl, ed, fun l nl => ?_⟩
    obtain ⟨s3, el⟩ := layL nl ((kvT ss).map fun kv => kV kv.1)
    walk_at "go"
    have ek : (kvT ss).map (fun kv => kV kv.1) = ss.map V.str := by
      simp [kvT, Function.comp_def, kV]
    rw [ek] at el s3 ⊢
    refine ⟨l, ss, rfl, SqL.of el, by omega, fun ys p hp hs np => ?_⟩
    obtain ⟨s4, ep⟩ := layL np (ys.map V.str)
    walk_at "go"
    refine ⟨p, _, rfl, SqL.of ep, fun q o nq ho => ?_⟩
    exact k _ _ (((s2.trans s3).trans s4).trans (Same.lay nq)) ⟨ys, hp, hs, q, o, rfl, ho, upd_same⟩
  rcases ha with ha | ⟨o, ha⟩
  · refine .inl ⟨_, rfl, w_l (fun i σ' H' => ∃ v2, σ' = [some (V.ref a), some (V.ref d), v2] ∧ Same H H' ∧ H' d = some (.dK (kvT (ss.take i)))) (s1 _ _ ha) Pv0 ?_ ?_ fin⟩
    · rintro i σ' H' _ ⟨_, rfl, s2, _⟩
      exact s2 _ _ ha
    · intro i x σ' H' hx p
      exact turn _ i x σ' H' hx p fun _ _ q => q
  · refine .inr ⟨_, rfl, w_tS (fun i σ' H' => ∃ v2, σ' = [some (V.ref a), some (V.ref d), v2] ∧ Same H H' ∧ H' d = some (.dK (kvT (ss.take i)))) (sqF (s1 _ _ ha)) Pv0 ?_ ?_ fin⟩
    · rintro i σ' H' _ ⟨_, rfl, s2, _⟩
      exact sqF (s2 _ _ ha)
    · intro i x σ' H' hx p
      exact turn _ i x σ' H' hx p fun _ _ q => q
end
end K81
end

section
open PySem PySem.Spec PyProof.Rows L2

namespace K81
local macro_rules | `(tactic| walk_at "s1") => `(tactic| first
  | with_reducible refine r_seq ?_
  | with_reducible refine r_asg ?_
  | with_reducible refine r_ret ?_
  | with_reducible refine r_if ?_
  | with_reducible refine r_app ?_
  | with_reducible refine r_drop ?_
  | with_reducible refine r_asgS ?_
  | with_reducible refine r_op ?_
  | with_reducible refine r_c ?_
  | ((with_reducible refine' r_var ?hv ?_); (case hv => exact rfl))
  | with_reducible refine r_cb ?_
  | with_reducible refine r_cons ?_
  | with_reducible refine r_nil ?_
  | with_reducible refine r_test ?_
  | with_reducible refine r_tB ?_
  | with_reducible refine r_not ?_
  | with_reducible refine r_and ?_
  | with_reducible refine r_or ?_
  | with_reducible refine r_call ?_
  | with_reducible refine r_tup ?_
  | with_reducible refine r_for1 ?_
  | with_reducible refine r_for2 ?_
  | with_reducible refine r_forT ?_
  | with_reducible refine r_forL ?_
  | with_reducible refine r_lc1 ?_
  | with_reducible refine r_lcT ?_
  | with_reducible refine r_lcL ?_
  | with_reducible refine r_lcE ?_
  | with_reducible refine r_lst ?_
  | with_reducible refine r_yes ?_
  | with_reducible refine r_next ?_
  | with_reducible refine r_nat ?_
  | with_reducible refine r_nat1 ?_
  | with_reducible refine r_i0 ?_
  | with_reducible refine r_int1 ?_
  | ((with_reducible refine' r_eq ?hs ?_); (case hs => exact rfl))
  | ((with_reducible refine' r_ne ?hs ?_); (case hs => exact rfl))
  | with_reducible refine r_bitT ?_
  | with_reducible refine r_bl ?_)
local macro_rules | `(tactic| walk_at "go") => `(tactic| repeat walk_at "s1")

abbrev s_core_of_ties : Stmt := topS 20
theorem sc_core_of_ties : FnScope ["points", "ties", "core", "one", "two", "first", "second", "name"] ["points", "ties"] (C8.fnScope s_core_of_ties) := C8.fnScope_by (by decide +kernel)
abbrev s_made_net : Stmt := topS 21
theorem sc_made_net : FnScope ["points", "core", "i", "k"] ["points", "core"] (C8.fnScope s_made_net) := C8.fnScope_by (by decide +kernel)
abbrev s_net_init : Stmt := inClass (topS 23) 0
theorem sc_net_init : FnScope ["self", "points", "ties", "i", "k"] ["self", "points", "ties"] (C8.fnScope s_net_init) := C8.fnScope_by (by decide +kernel)
abbrev s_net_len : Stmt := inClass (topS 23) 6
theorem sc_net_len : FnScope ["self"] ["self"] (C8.fnScope s_net_len) := C8.fnScope_by (by decide +kernel)
abbrev s_net_of_core : Stmt := topS 25
theorem sc_net_of_core : FnScope ["points", "core"] ["points", "core"] (C8.fnScope s_net_of_core) := C8.fnScope_by (by decide +kernel)

section
variable {P : Program} {w : World} {K : PySem.W.Frag} {mg : Str → Option Value} {base : Heap} {CN CR : Addr}
def rTupIx (K : PySem.W.Frag) : V → List V → Hp → VK → Prop := fun x xs H Q => ∃ p, ∃ ys : List Str, ∃ z j, x = .ref p ∧ xs = [.str z] ∧ SqT K H p (ys.map V.str) ∧ ys[j]? = some z ∧ (∀ m, m < j → ys[m]? ≠ some z) ∧ Q (.int (j : Nat)) H
theorem r_tupIx {H : Hp} {p : Addr} {ys : List Str} {z : Str} {j : Nat} {Q : VK} (h : SqT K H p (ys.map V.str)) (nd : ys.Nodup) (hj : ys[j]? = some z) (q : Q (nV j) H) : rTupIx K (.ref p) [.str z] H Q :=
  ⟨p, ys, z, j, rfl, rfl, h, hj, fun m hm e => by
    have := (List.getElem?_inj (List.getElem?_eq_some_iff.mp e).1 nd).mp (e.trans hj.symm)
    omega, q⟩
def TieAt (ss : List Str) (H : Hp) (x : V) (p : Nat × Nat) : Prop := TieOk ss.length p ∧ ∃ b s1 s2, x = .ref b ∧ ss[p.1]? = some s1 ∧ ss[p.2]? = some s2 ∧ (H b = some (.tup [.str s1, .str s2]) ∨ H b = some (.lst [.str s1, .str s2]))
def LTies (H : Hp) (v : V) (ss : List Str) (ps : List (Nat × Nat)) : Prop := ∃ a xs, v = .ref a ∧ H a = some (.lst xs) ∧ Paired (TieAt ss H) xs ps
theorem TieAt.s {ss : List Str} {H H' : Hp} {x : V} {p : Nat × Nat} (e : Same H H') (h : TieAt ss H x p) : TieAt ss H' x p := by
  obtain ⟨h1, b, s1, s2, h2, h3, h4, h5⟩ := h
  exact ⟨h1, b, s1, s2, h2, h3, h4, h5.imp (e _ _) (e _ _)⟩
theorem LTies.s {ss : List Str} {H H' : Hp} {v : V} {ps : List (Nat × Nat)} (e : Same H H') (h : LTies H v ss ps) : LTies H' v ss ps := by
  obtain ⟨a, xs, h1, h2, h3⟩ := h
  exact ⟨a, xs, h1, e _ _ h2, L2.Paired.mapP h3 fun _ _ r => r.s e⟩
def sp_core_of_ties (K : PySem.W.Frag) : Sp := fun vs H Q _ => ∃ (p t : V) (ss : List Str) (ps : List (Nat × Nat)), vs = [p, t] ∧ PtsT H p ss ∧ LTies H t ss ps ∧ ss.Nodup ∧ ss.length ≤ 10 ∧ Res H Q fun v H' => IT H' v (coreOf ss.length ps)
theorem c_core_of_ties (B : Bi mg) (D : DB K mg "core_of_ties" s_core_of_ties ["points", "ties"]) : C8.Cal P w K mg base 1 "core_of_ties" (sp_core_of_ties K) [] := by
  obtain ⟨f, fd, F, b⟩ := D.ex
  have nd := sc_core_of_ties.nd
  refine C8.cal0 F b .nil sc_core_of_ties (fun vs H Q E h => by obtain ⟨p, t, ss, ps, rfl, _⟩ := h; rfl) fun cdv A outer s H vs Q E hr h => ?_
  obtain ⟨_, _, ss, ps, rfl, ⟨p, o, rfl, ho, hp⟩, ⟨t, xs, rfl, ht, px⟩, hnd, hl, k⟩ := h
  refine ⟨(tSeq (tAsg (tLc (iTup K (tVar 0)) (gName 7) tYes (tC (.int 0)) [7]) (gName 2))
      (tSeq (tFor (iList K (tVar 1)) (gAny K 2 (gCons (gName 3) (gCons (gName 4) gNil))) (tSeq (tIfS (tTest (tOp (rIn K true) (tVar 3) (tVar 0))) tNever tNext)
        (tSeq (tIfS (tTest (tOp (rIn K true) (tVar 4) (tVar 0))) tNever tNext)
        (tSeq (tIfS (tTest (tOp rEq (tVar 3) (tVar 4))) tNever tNext)
        (tSeq (tAsg (tBMF (rTupIx K) (tVar 0) (tCons (tVar 3) tNil)) (gName 5))
        (tSeq (tAsg (tBMF (rTupIx K) (tVar 0) (tCons (tVar 4) tNil)) (gName 6))
        (tSeq (tAsg (tOp rOrT (tOp (rIxL K) (tVar 2) (tVar 5)) (tOp rShlT (tC (.int 1)) (tVar 6))) (gSub (tVar 2) (tVar 5) rSetL))
        (tAsg (tOp rOrT (tOp (rIxL K) (tVar 2) (tVar 6)) (tOp rShlT (tC (.int 1)) (tVar 5))) (gSub (tVar 2) (tVar 6) rSetL)))))))))
      (tRet (tCB (rTupOf K) (tCons (tVar 2) tNil))))),
      (pss_cons (ps_setLc (i := 2) (own := [("name", 7)]) (g := (gName 7)) (tt := tYes) (te := (tC (.int 0))) rfl nd rfl rfl (sw_true rfl rfl rfl (by decide +kernel)) (pi_tup (pv 0)) (blkOk_by (N := ["points", "ties", "core", "one", "two", "first", "second", "name"]) (sc := C8.fnScope s_core_of_ties) (own := [("name", 7)]) (by decide +kernel)) (fun _ _ _ _ _ => (pg_name (i := 7) nd rfl (by first | exact Or.inl rfl | exact Or.inr rfl))) (fun _ _ _ _ _ => pts_nil) (fun _ _ _ _ _ => pe_int))
      (pss_cons (ps_for PassesOwn.never rfl (pi_list (pv 1)) (pg_any (pg_tup rfl (pgs_cons (pg_name (i := 3) nd rfl (by first | exact Or.inl rfl | exact Or.inr rfl)) (pgs_cons (pg_name (i := 4) nd rfl (by first | exact Or.inl rfl | exact Or.inr rfl)) pgs_nil))) (pg_unl rfl (pgs_cons (pg_name (i := 3) nd rfl (by first | exact Or.inl rfl | exact Or.inr rfl)) (pgs_cons (pg_name (i := 4) nd rfl (by first | exact Or.inl rfl | exact Or.inr rfl)) pgs_nil)))) (pss_cons (ps_if (pt_cmpR op_notIn_seq (pv 3) (pv 0) rfl) (pss_one ps_never) pss_nil)
        (pss_cons (ps_if (pt_cmpR op_notIn_seq (pv 4) (pv 0) rfl) (pss_one ps_never) pss_nil)
        (pss_cons (ps_if (pt_cmpR op_eq (pv 3) (pv 4) (nomark _)) (pss_one ps_never) pss_nil)
        (pss_cons (ps_set (i := 5) nd rfl (by first | exact Or.inl rfl | exact Or.inr rfl) (pe_bmF PySem.F.plainAttrs_tuple PySem.F.slot_tuple_index PySem.F.type_tuple_index mt_tup_index (pv 0) (pa_cons (pv 3) pa_nil)))
        (pss_cons (ps_set (i := 6) nd rfl (by first | exact Or.inl rfl | exact Or.inr rfl) (pe_bmF PySem.F.plainAttrs_tuple PySem.F.slot_tuple_index PySem.F.type_tuple_index mt_tup_index (pv 0) (pa_cons (pv 4) pa_nil)))
        (pss_cons (ps_asg (pe_op op_orT (pe_ix ix_list (pv 2) (pv 5) (fun _ _ => rfl)) (pe_op op_shlT pe_int (pv 6))) (pg_sub (pv 2) (pv 5) set_list))
        (pss_one (ps_asg (pe_op op_orT (pe_ix ix_list (pv 2) (pv 6) (fun _ _ => rfl)) (pe_op op_shlT pe_int (pv 5))) (pg_sub (pv 2) (pv 6) set_list))))))))))
      (pss_one (ps_ret (pe_callTy call_tuple_of (by rfl) B.tuple (by decide +kernel) (pa_cons (pv 2) pa_nil)))))), ?_⟩
  change tSeq _ _ _ [some (V.ref p), some (V.ref t), none, none, none, none, none, none] H
  walk_at "go"
  refine c_tS (xs := ss.map V.str) (fun i acc _ => acc = List.replicate i (nV 0)) (fun _ _ _ _ _ e => e) (sqF hp) rfl (fun D acc i x H' hD hx hi s e z r => ?_) (fun l H' acc nl s1 el _ ea => ?_)
  · refine ⟨rfl, ?_⟩
    walk_at "go"
    refine iteT ?_
    walk_at "go"
    refine lc_yes (fun _ _ _ _ _ e => e) hD s e z ?_ ?_
    · rw [List.length_map] at hi
      omega
    · rw [r, List.replicate_succ']
      rfl
  subst ea
  rw [List.length_map] at el
  have e0 : List.replicate ss.length (nV 0) = (coreOf ss.length (ps.take 0)).map nV := by
    rw [List.take_zero, coreOf, List.foldl_nil, List.map_replicate]
  rw [e0] at el
  have hxl : xs.length = ps.length := Paired.length px
  walk_at "go"
  refine w_l (fun i σ' H' => ∃ v3 v4 v5 v6, σ' = [some (V.ref p), some (V.ref t), some (V.ref l), v3, v4, v5, v6, none] ∧ Same H H' ∧ H' l = some (.lst ((coreOf ss.length (ps.take i)).map nV))) (s1 _ _ ht) ?_ ?_ ?_ ?_
  · exact ⟨_, _, _, _, rfl, s1, el⟩
  · rintro i σ' H' _ ⟨_, _, _, _, rfl, s2, _⟩
    exact s2 _ _ ht
  · rintro i x σ' H1 hx ⟨v3, v4, v5, v6, rfl, s2, el⟩
    have hi : i < ps.length := by
      have := (List.getElem?_eq_some_iff.mp hx).1
      omega
    obtain ⟨x', hx', hok, b, z1, z2, rfl, hz1, hz2, hb⟩ := K81.Paired.get px (List.getElem?_eq_getElem hi)
    rw [hx] at hx'
    cases hx'
    generalize hpi : ps[i] = pi at *
    obtain ⟨i1, i2⟩ := pi
    have hpi' : ps[i]? = some (i1, i2) := by rw [List.getElem?_eq_getElem hi, hpi]
    obtain ⟨h1, h2, h3⟩ := hok
    simp only at h1 h2 h3 hz1 hz2
    have hne := nd_ne hnd hz1 hz2 h3
    have hb' : SqT K H1 b [.str z1, .str z2] ∨ SqL K H1 b [.str z1, .str z2] := hb.imp (fun e => SqT.of (s2 _ _ e)) (fun e => SqL.of (s2 _ _ e))
    have hlc : (coreOf ss.length (ps.take i)).length = ss.length := coreOf_len _ _
    refine ⟨b, _, rfl, hb', rfl, _, _, rfl, _, _, rfl, rfl, ?_⟩
    walk_at "go"
    refine r_niTsS (sqF (s2 _ _ hp)) ?_
    rw [decide_eq_true (List.mem_of_getElem? hz1)]
    walk_at "go"
    refine iteF ?_
    walk_at "go"
    refine r_niTsS (sqF (s2 _ _ hp)) ?_
    rw [decide_eq_true (List.mem_of_getElem? hz2)]
    walk_at "go"
    refine iteF ?_
    walk_at "go"
    rw [decide_eq_false (fun e => hne (V.str.inj e))]
    refine iteF ?_
    walk_at "go"
    refine ⟨_, rfl, ⟨p, o, _, rfl, s2 _ _ hp, ho⟩, ?_⟩
    walk_at "go"
    refine r_tupIx (sqF (s2 _ _ hp)) hnd hz1 ?_
    walk_at "go"
    refine ⟨_, rfl, ⟨p, o, _, rfl, s2 _ _ hp, ho⟩, ?_⟩
    walk_at "go"
    refine r_tupIx (sqF (s2 _ _ hp)) hnd hz2 ?_
    walk_at "go"
    refine r_ixL el (ns_at (by rw [hlc]; exact h1)) ?_
    walk_at "go"
    refine r_shl (by omega) ?_
    walk_at "go"
    refine r_setL el (by rw [List.length_map, hlc]; exact h1) ?_
    have el2 : (upd H1 l (.lst (((coreOf ss.length (ps.take i)).map nV).set i1 (nV (g (coreOf ss.length (ps.take i)) i1 ||| 2 ^ i2))))) l = some (.lst (((coreOf ss.length (ps.take i)).set i1 (g (coreOf ss.length (ps.take i)) i1 ||| 2 ^ i2)).map nV)) := by
      rw [upd_same, List.map_set]
    have hls2 : ((coreOf ss.length (ps.take i)).set i1 (g (coreOf ss.length (ps.take i)) i1 ||| 2 ^ i2)).length = ss.length := by rw [List.length_set, hlc]
    walk_at "go"
    refine r_ixL el2 (ns_at (by rw [hls2]; exact h2)) ?_
    walk_at "go"
    refine r_shl (by omega) ?_
    walk_at "go"
    refine r_setL el2 (by rw [List.length_map, hls2]; exact h2) ?_
    refine ⟨_, _, _, _, rfl, (s2.chg nl).chg nl, ?_⟩
    rw [upd_same, coreOf_take hpi', tie]
    simp only [List.map_set]
  · rintro σ' H1 ⟨v3, v4, v5, v6, rfl, s2, el⟩
    rw [List.take_of_length_le (by omega)] at el
    walk_at "go"
    refine r_tupOf el fun q nq => ?_
    obtain ⟨s3, eq⟩ := layT nq ((coreOf ss.length ps).map nV)
    exact k _ _ (s2.trans s3) ⟨q, rfl, eq⟩
end
end K81
end

section
namespace K81
open PySem PySem.Spec PyProof.Rows L2
theorem rising_head : ∀ (p : Str) (l : List Str), risingS p l = true → ∀ x ∈ l, p.cps.toList ≤ x.cps.toList
  | _, [], _, x, hx => by simp at hx
  | p, y :: r, h, x, hx => by
    simp only [risingS, Bool.and_eq_true, Bool.not_eq_true', ltCps_eq, decide_eq_false_iff_not] at h
    have h1 : p.cps.toList ≤ y.cps.toList := List.not_lt.mp h.1
    rcases List.mem_cons.mp hx with rfl | hx
    · exact h1
    · exact List.le_trans h1 (rising_head y r h.2 x hx)
theorem rising_tail : ∀ (p : Str) (l : List Str), risingS p l = true → sortedS l = true
  | _, [], _ => rfl
  | p, y :: r, h => by
    simp only [risingS, Bool.and_eq_true] at h
    exact h.2
theorem sorted_pw : ∀ (l : List Str), sortedS l = true → l.Pairwise (fun a b => a.cps.toList ≤ b.cps.toList)
  | [], _ => .nil
  | x :: r, h => .cons (rising_head x r h) (sorted_pw r (rising_tail x r h))
theorem sorted_eq {l l' : List Str} (p : l.Perm l') (h : sortedS l = true) (h' : sortedS l' = true) : l = l' := by
  refine List.Perm.eq_of_pairwise (le := fun a b => a.cps.toList ≤ b.cps.toList) ?_ (sorted_pw l h) (sorted_pw l' h') p
  intro a b _ _ h1 h2
  have e := List.le_antisymm h1 h2
  cases a with | mk x => cases b with | mk y => 
    congr 1
    exact Array.toList_inj.mp e
/-! ### names told by their places -/
def sg (ss : List Str) (i : Nat) : Str := ss.getD i ""
theorem sg_get {ss : List Str} {i : Nat} (h : i < ss.length) : ss[i]? = some (sg ss i) := by
  simp [sg, List.getD, h]
theorem sg_at {ss : List Str} {i : Nat} (h : i < ss.length) : (ss.map V.str)[i]? = some (.str (sg ss i)) := by
  rw [List.getElem?_map, sg_get h]
  rfl
def named (ss : List Str) (c : Core) : List (Str × Str) := (ties c).map fun p => (sg ss p.1, sg ss p.2)
/-- a net's names and core -/
structure NetP (ss : List Str) (c : Core) : Prop where
  good : Good ss.length c
  srt : sortedS ss = true
  nd : ss.Nodup
  val : ∀ s ∈ ss, Valid s
  five : ss.length ≤ 5
/-- the object -/
def NetAt (CN : Addr) (H : Hp) (x : Addr) (ss : List Str) (c : Core) : Prop := ∃ dx p o pc pt ts, H x = some (.ins CN dx [("points", .ref p), ("core", .ref pc), ("ties", .ref pt)]) ∧ o.dict = none ∧ H p = some (.frz o (.tup (ss.map V.str))) ∧ H pc = some (.tup (c.map nV)) ∧ H pt = some (.tup ts) ∧ Paired (PS2 H) ts (named ss c)
def NetV (CN : Addr) (H : Hp) (v : V) (ss : List Str) (c : Core) : Prop := ∃ x, v = .ref x ∧ NetAt CN H x ss c
theorem NetAt.s {CN : Addr} {H H' : Hp} {x : Addr} {ss : List Str} {c : Core} (e : Same H H') (h : NetAt CN H x ss c) : NetAt CN H' x ss c := by
  obtain ⟨dx, p, o, pc, pt, ts, h1, h2, h3, h4, h5, h6⟩ := h
  exact ⟨dx, p, o, pc, pt, ts, e _ _ h1, h2, e _ _ h3, e _ _ h4, e _ _ h5, L2.Paired.mapP h6 fun _ _ r => PS2.t e.tup r⟩
theorem NetV.s {CN : Addr} {H H' : Hp} {v : V} {ss : List Str} {c : Core} (e : Same H H') (h : NetV CN H v ss c) : NetV CN H' v ss c := let ⟨x, q, z⟩ := h; ⟨x, q, z.s e⟩
structure ClsN (K : PySem.W.Frag) (CN : Addr) : Prop where
  cls : Cls K CN
  points : NoAttr K CN "points"
  core : NoAttr K CN "core"
  ties : NoAttr K CN "ties"
structure ClsR (K : PySem.W.Frag) (CR : Addr) : Prop where
  cls : Cls K CR
  pairs : NoAttr K CR "pairs"
  presses : NoAttr K CR "presses"
/-! ### fields -/
section
variable {D : Ends} {σ : L2.St} {H : Hp} {ta tv te : TE} {t : TA} {K : PySem.W.Frag} {Q : VK} {f : Str} {v : V} {a C dx : Addr} {fs : List (Str × V)} {y : V}
theorem r_tfld (h : ta σ H fun x H1 => ∃ a C dx fs v, x = .ref a ∧ H1 a = some (.ins C dx fs) ∧ Cls K C ∧ NoAttr K C f ∧ fs.lookup f = some v ∧ Q v H1) : tFld K ta f σ H Q := h
theorem r_fld (e : H a = some (.ins C dx fs)) (c : Cls K C) (n : NoAttr K C f) (l : fs.lookup f = some v) {P : V → Prop} (q : P v) : ∃ a' C dx fs v, V.ref a = .ref a' ∧ H a' = some (.ins C dx fs) ∧ Cls K C ∧ NoAttr K C f ∧ fs.lookup f = some v ∧ P v := ⟨a, C, dx, fs, v, rfl, e, c, n, l, q⟩
theorem r_tsfld (h : tv σ H fun y H1 => ta σ H1 fun x H2 => ∃ a C dx fs, x = .ref a ∧ H2 a = some (.ins C dx fs) ∧ Cls K C ∧ NoAttr K C f ∧ fs.length < 1000 ∧ D.nx σ (upd H2 a (.ins C dx (putF f y fs)))) : sFld K ta tv f D σ H := h
theorem r_sfld (e : H a = some (.ins C dx fs)) (c : Cls K C) (n : NoAttr K C f) (z : fs.length < 1000) (q : D.nx σ (upd H a (.ins C dx (putF f y fs)))) : ∃ a' C dx fs, V.ref a = .ref a' ∧ H a' = some (.ins C dx fs) ∧ Cls K C ∧ NoAttr K C f ∧ fs.length < 1000 ∧ D.nx σ (upd H a' (.ins C dx (putF f y fs))) := ⟨a, C, dx, fs, rfl, e, c, n, z, q⟩
theorem r_make {sp : Sp} {E : XK} (h : t σ H fun vs H1 => ∀ x dx, H1 x = none → H1 dx = none → dx ≠ x → sp (.ref x :: vs) (upd (upd H1 dx (.own x)) x (.ins C dx [])) (fun v H2 => v = .non ∧ Q (.ref x) H2) E) : tMake C sp [] E t σ H Q := by
  have e : (fun (vs : List V) (H1 : Hp) => ∀ x dx, H1 x = none → H1 dx = none → dx ≠ x → sp (.ref x :: (vs ++ [])) (upd (upd H1 dx (.own x)) x (.ins C dx [])) (fun v H2 => v = .non ∧ Q (.ref x) H2) E) = fun vs H1 => ∀ x dx, H1 x = none → H1 dx = none → dx ≠ x → sp (.ref x :: vs) (upd (upd H1 dx (.own x)) x (.ins C dx [])) (fun v H2 => v = .non ∧ Q (.ref x) H2) E := by
    funext vs H1
    simp only [List.append_nil]
  show t σ H fun (vs : List V) (H1 : Hp) => ∀ x dx, H1 x = none → H1 dx = none → dx ≠ x → sp (.ref x :: (vs ++ [])) (upd (upd H1 dx (.own x)) x (.ins C dx [])) (fun v H2 => v = .non ∧ Q (.ref x) H2) E
  rw [e]
  exact h
end
/-- all but one object stays -/
def SX (x : Addr) (H H' : Hp) : Prop := ∀ b o, b ≠ x → H b = some o → H' b = some o
theorem Same.sx {x : Addr} {H H' : Hp} (e : Same H H') : SX x H H' := fun b o _ h => e b o h
theorem SX.trans {x : Addr} {H H1 H2 : Hp} (a : SX x H H1) (b : SX x H1 H2) : SX x H H2 := fun c o n e => b c o n (a c o n e)
theorem SX.upd {x : Addr} {H H1 : Hp} {o : HO} (a : SX x H H1) : SX x H (upd H1 x o) := fun c u n e => by
  rw [upd_ne n]
  exact a c u n e
theorem SX.made {x dx : Addr} {H H' : Hp} {o u : HO} (hx : H x = none) (hd : H dx = none) (h : SX x (L2.upd (L2.upd H dx o) x u) H') : Same H H' := fun b w e => by
  refine h b w (ne_of_none e hx) ?_
  rw [upd_ne (ne_of_none e hx), upd_ne (ne_of_none e hd)]
  exact e
end K81
end

section
open PySem PySem.Spec PyProof.Rows L2

namespace K81
local macro_rules | `(tactic| walk_at "s1") => `(tactic| first
  | with_reducible refine r_seq ?_
  | with_reducible refine r_asg ?_
  | with_reducible refine r_ret ?_
  | with_reducible refine r_if ?_
  | with_reducible refine r_app ?_
  | with_reducible refine r_drop ?_
  | with_reducible refine r_asgS ?_
  | with_reducible refine r_op ?_
  | with_reducible refine r_c ?_
  | ((with_reducible refine' r_var ?hv ?_); (case hv => exact rfl))
  | with_reducible refine r_cb ?_
  | with_reducible refine r_cons ?_
  | with_reducible refine r_nil ?_
  | with_reducible refine r_test ?_
  | with_reducible refine r_tB ?_
  | with_reducible refine r_not ?_
  | with_reducible refine r_and ?_
  | with_reducible refine r_or ?_
  | with_reducible refine r_call ?_
  | with_reducible refine r_tup ?_
  | with_reducible refine r_for1 ?_
  | with_reducible refine r_for2 ?_
  | with_reducible refine r_forT ?_
  | with_reducible refine r_forL ?_
  | with_reducible refine r_lc1 ?_
  | with_reducible refine r_lcT ?_
  | with_reducible refine r_lcL ?_
  | with_reducible refine r_lcE ?_
  | with_reducible refine r_lst ?_
  | with_reducible refine r_yes ?_
  | with_reducible refine r_next ?_
  | with_reducible refine r_nat ?_
  | with_reducible refine r_nat1 ?_
  | with_reducible refine r_i0 ?_
  | with_reducible refine r_int1 ?_
  | ((with_reducible refine' r_eq ?hs ?_); (case hs => exact rfl))
  | ((with_reducible refine' r_ne ?hs ?_); (case hs => exact rfl))
  | with_reducible refine r_bitT ?_
  | with_reducible refine r_tfld ?_
  | with_reducible refine r_tsfld ?_
  | with_reducible refine r_make ?_
  | with_reducible refine r_bl ?_)
local macro_rules | `(tactic| walk_at "go") => `(tactic| repeat walk_at "s1")

section
variable {P : Program} {w : World} {K : PySem.W.Frag} {mg : Str → Option Value} {base : Heap} {CN CR : Addr}
structure DI (K : PySem.W.Frag) (mg : Str → Option Value) (x : Str) (C : Addr) (qual : Str) (st : Stmt) (ps : List Str) : Prop where
  ex : ∃ (f : Addr) (fd : FuncData), Mk K C f ∧ mg x = some (.ref C) ∧ C8.Fun K "__init__" qual st f fd ∧ Binds K fd ps []
theorem AnyS.s {H H' : Hp} {v : V} {ss : List Str} (e : Same H H') (h : AnyS H v ss) : AnyS H' v ss := by
  obtain ⟨a, q, z⟩ := h
  exact ⟨a, q, z.imp (e _ _) fun ⟨o, z⟩ => ⟨o, e _ _ z⟩⟩
theorem LTies.x {x : Addr} {ss : List Str} {H H' : Hp} {v : V} {ps : List (Nat × Nat)} {C dx : Addr} {fs : List (Str × V)} (hx : H x = some (.ins C dx fs)) (e : SX x H H') (h : LTies H v ss ps) : LTies H' v ss ps := by
  obtain ⟨a, xs, h1, h2, h3⟩ := h
  refine ⟨a, xs, h1, e _ _ (by rintro rfl; rw [hx] at h2; cases h2) h2, L2.Paired.mapP h3 fun y p r => ?_⟩
  obtain ⟨g1, b, s1, s2, g2, g3, g4, g5⟩ := r
  refine ⟨g1, b, s1, s2, g2, g3, g4, g5.imp (fun z => e _ _ (by rintro rfl; rw [hx] at z; cases z) z) (fun z => e _ _ (by rintro rfl; rw [hx] at z; cases z) z)⟩
def sp_net_init (K : PySem.W.Frag) (CN : Addr) : Sp := fun vs H Q _ => ∃ (x dx : Addr) (v t : V) (qs ss : List Str) (ps : List (Nat × Nat)), vs = [.ref x, v, t] ∧ H x = some (.ins CN dx []) ∧ AnyS H v qs ∧ qs.Perm ss ∧ (∀ s ∈ ss, Valid s) ∧ ss.Nodup ∧ sortedS ss = true ∧ ss.length ≤ 5 ∧ LTies H t ss ps ∧
  ∀ H', SX x H H' → NetAt CN H' x ss (coreOf ss.length ps) → Q .non H'
theorem ties_take {ss : List Str} {c : Core} {i : Nat} {p : Nat × Nat} (h : (ties c)[i]? = some p) : (named ss c).take (i + 1) = (named ss c).take i ++ [(sg ss p.1, sg ss p.2)] := by
  rw [List.take_add_one, named, List.getElem?_map, h]
  rfl
theorem ps2_t {H H' : Hp} {xs : List V} {ps : List (Str × Str)} (e : TSame H H') (h : Paired (PS2 H) xs ps) : Paired (PS2 H') xs ps := L2.Paired.mapP h fun _ _ r => PS2.t e r
theorem ties_few {c : Core} (h : c.length ≤ 10) : (ties c).length ≤ 100 := by
  rw [ties_eq]
  exact Nat.le_trans (tiesK_len c _) (Nat.mul_le_mul h h)
theorem c_net_init (B : Bi mg) (CL : ClsN K CN) (c_ordered_points : C8.Cal P w K mg base 2 "ordered_points" (sp_ordered_points K) []) (c_core_of_ties : C8.Cal P w K mg base 1 "core_of_ties" (sp_core_of_ties K) []) (c_core_ties : C8.Cal P w K mg base 1 "core_ties" (sp_core_ties K) [])
    (D : DI K mg "Net" CN "Net.__init__" s_net_init ["self", "points", "ties"]) : C8.Mak P w K mg base 3 "Net" CN (sp_net_init K CN) [] := by
  obtain ⟨f, fd, M, hm, F, b⟩ := D.ex
  have nd := sc_net_init.nd
  refine C8.mak0 M hm F b .nil sc_net_init (fun vs H Q E h => by obtain ⟨x, dx, v, t, qs, ss, ps, rfl, _⟩ := h; rfl) fun cdv A outer s H vs Q E hr h => ?_
  obtain ⟨x, dx, v, t, qs, ss, ps, rfl, hx, hq, hqp, hv, hnd, hs, hl, ht, k⟩ := h
  refine ⟨(tSeq (sFld K (tVar 0) (tCall (sp_ordered_points K) [] C8.E0 (tCons (tVar 1) tNil)) "points")
      (tSeq (sFld K (tVar 0) (tCall (sp_core_of_ties K) [] C8.E0 (tCons (tFld K (tVar 0) "points") (tCons (tVar 2) tNil))) "core")
      (sFld K (tVar 0) (tCB (rTupOf K) (tCons (tLc (iTup K (tCall (sp_core_ties K) [] C8.E0 (tCons (tFld K (tVar 0) "core") tNil))) (gTup K 2 (gCons (gName 3) (gCons (gName 4) gNil))) tYes (tTup (tCons (tOp (rIxT K) (tFld K (tVar 0) "points") (tVar 3)) (tCons (tOp (rIxT K) (tFld K (tVar 0) "points") (tVar 4)) tNil))) [3, 4]) tNil)) "ties"))),
      (pss_cons (ps_fld (pv 0) (C8.pe_c c_ordered_points hr (by decide) rfl (pa_cons (pv 1) pa_nil)) rfl)
      (pss_cons (ps_fld (pv 0) (C8.pe_c c_core_of_ties hr (by decide) rfl (pa_cons (pe_fld (pv 0) rfl) (pa_cons (pv 2) pa_nil))) rfl)
      (pss_one (ps_fld (pv 0) (pe_callTy call_tuple_of (by rfl) B.tuple (by decide +kernel) (pa_cons (pe_lc (own := [("i", 3), ("k", 4)]) (g := (gTup K 2 (gCons (gName 3) (gCons (gName 4) gNil)))) (tt := tYes) (te := (tTup (tCons (tOp (rIxT K) (tFld K (tVar 0) "points") (tVar 3)) (tCons (tOp (rIxT K) (tFld K (tVar 0) "points") (tVar 4)) tNil)))) rfl nd (pi_tup (C8.pe_c c_core_ties hr (by decide) rfl (pa_cons (pe_fld (pv 0) rfl) pa_nil))) (blkOk_by (N := ["self", "points", "ties", "i", "k"]) (sc := C8.fnScope s_net_init) (own := [("i", 3), ("k", 4)]) (by decide +kernel)) (fun _ _ _ _ _ => (pg_tup rfl (pgs_cons (pg_name (i := 3) nd rfl (by first | exact Or.inl rfl | exact Or.inr rfl)) (pgs_cons (pg_name (i := 4) nd rfl (by first | exact Or.inl rfl | exact Or.inr rfl)) pgs_nil)))) (fun _ _ _ _ _ => pts_nil) (fun _ _ _ _ _ => (pe_tup (pa_cons (pe_ix ix_tup (pe_fld (pv 0) rfl) (pv 3) (fun _ _ => rfl)) (pa_cons (pe_ix ix_tup (pe_fld (pv 0) rfl) (pv 4) (fun _ _ => rfl)) pa_nil))))) pa_nil)) rfl)))), ?_⟩
  change tSeq _ _ _ [some (V.ref x), some v, some t, none, none] H
  walk_at "go"
  refine ⟨v, qs, rfl, hq, fun s hm => hv s (hqp.mem_iff.mp hm), hqp.nodup_iff.mpr hnd, by rw [hqp.length_eq]; omega, fun v1 H1 s1 h1 => ?_⟩
  obtain ⟨ys, hyp, hys, p, o, rfl, ho, hp⟩ := h1
  obtain rfl : ys = ss := sorted_eq (hyp.trans hqp) hys hs
  walk_at "go"
  refine r_sfld (s1 _ _ hx) CL.cls CL.points (by decide) ?_
  have npx : p ≠ x := by rintro rfl; rw [s1 _ _ hx] at hp; cases hp
  have hp2 := (upd_ne (H := H1) (o := HO.ins CN dx (putF "points" (V.ref p) [])) npx).trans hp
  have hx2 : (upd H1 x (.ins CN dx (putF "points" (V.ref p) []))) x = some (.ins CN dx [("points", .ref p)]) := upd_same
  have s2 : SX x H (upd H1 x (.ins CN dx (putF "points" (V.ref p) []))) := (Same.sx s1).upd
  generalize upd H1 x (.ins CN dx (putF "points" (V.ref p) [])) = H2 at *
  walk_at "go"
  refine r_fld hx2 CL.cls CL.points rfl ?_
  walk_at "go"
  refine ⟨_, _, ys, ps, rfl, ⟨p, o, rfl, ho, hp2⟩, LTies.x hx s2 ht, hnd, by omega, fun v3 H3 s3 h3 => ?_⟩
  obtain ⟨pc, rfl, hc⟩ := h3
  walk_at "go"
  refine r_sfld (s3 _ _ hx2) CL.cls CL.core (by show 1 < 1000; decide) ?_
  have ncx : pc ≠ x := by rintro rfl; rw [s3 _ _ hx2] at hc; cases hc
  have hp4 := (upd_ne (H := H3) (o := HO.ins CN dx (putF "core" (V.ref pc) [("points", .ref p)])) npx).trans (s3 _ _ hp2)
  have hc4 := (upd_ne (H := H3) (o := HO.ins CN dx (putF "core" (V.ref pc) [("points", .ref p)])) ncx).trans hc
  have hx4 : (upd H3 x (.ins CN dx (putF "core" (V.ref pc) [("points", .ref p)]))) x = some (.ins CN dx [("points", .ref p), ("core", .ref pc)]) := upd_same
  have s4 : SX x H (upd H3 x (.ins CN dx (putF "core" (V.ref pc) [("points", .ref p)]))) := (s2.trans (Same.sx s3)).upd
  generalize upd H3 x (.ins CN dx (putF "core" (V.ref pc) [("points", .ref p)])) = H4 at *
  generalize hcc : coreOf ys.length ps = c at *
  have hcl : c.length = ys.length := by rw [← hcc]; exact coreOf_len _ _
  walk_at "go"
  refine r_fld hx4 CL.cls CL.core rfl ?_
  walk_at "go"
  refine ⟨_, c, rfl, ⟨pc, rfl, hc4⟩, by omega, fun v5 H5 s5 h5 => ?_⟩
  obtain ⟨pp, xs, rfl, hpp, pxs⟩ := h5
  have hxl := Paired.length pxs
  have hfew := ties_few (c := c) (by omega)
  refine c_t (xs := xs) (fun i acc H' => Paired (PS2 H') acc ((named ys c).take i)) (fun _ _ _ _ e r => ps2_t e r) hpp .nil (fun D acc i y H' hD hy hi s e z r => ?_) (fun l H6 acc nl s6 el _ ea => ?_)
  · have hi' : i < (ties c).length := by omega
    obtain ⟨y', hy', bb, rfl, hbb⟩ := K81.Paired.get pxs (List.getElem?_eq_getElem hi')
    rw [hy] at hy'
    cases hy'
    generalize hti : (ties c)[i] = ti at *
    have hmt : ti ∈ ties c := by rw [← hti]; exact List.getElem_mem _
    have hget : (ties c)[i]? = some ti := by rw [List.getElem?_eq_getElem hi', hti]
    obtain ⟨m1, m2, _⟩ := (mem_ties hcl).mp hmt
    refine ⟨bb, _, rfl, SqT.of (s _ _ hbb), rfl, _, _, rfl, _, _, rfl, rfl, ?_⟩
    refine ⟨rfl, ?_⟩
    walk_at "go"
    refine iteT ?_
    walk_at "go"
    refine r_fld (s _ _ (s5 _ _ hx4)) CL.cls CL.points rfl ?_
    walk_at "go"
    refine r_ixTS (sqF (s _ _ (s5 _ _ hp4))) (sg_at (show ti.1 < _ by omega)) ?_
    walk_at "go"
    refine r_fld (s _ _ (s5 _ _ hx4)) CL.cls CL.points rfl ?_
    walk_at "go"
    refine r_ixTS (sqF (s _ _ (s5 _ _ hp4))) (sg_at m2) ?_
    walk_at "go"
    refine ⟨by show 2 ≤ sizeLine; decide, fun q nq => ?_⟩
    obtain ⟨s6, eq⟩ := layT nq [V.str (sg ys ti.1), V.str (sg ys ti.2)]
    refine lc_yes (fun _ _ _ _ e r => ps2_t e r) hD (s.trans s6) (s6 _ _ e) z (by omega) ?_
    rw [ties_take hget]
    exact Paired.snoc (ps2_t s6.tup r) ⟨q, rfl, eq⟩
  have ea' : Paired (PS2 H6) acc (named ys c) := by
    rw [List.take_of_length_le (by rw [named, List.length_map]; omega)] at ea
    exact ea
  walk_at "go"
  refine r_tupOf el fun pt npt => ?_
  obtain ⟨s7, et⟩ := layT npt acc
  walk_at "go"
  have s47 := (s5.trans s6).trans s7
  refine r_sfld (s47 _ _ hx4) CL.cls CL.ties (by show 2 < 1000; decide) ?_
  have ntx : pt ≠ x := by rintro rfl; rw [s47 _ _ hx4] at et; cases et
  refine k _ (s4.trans (Same.sx s47)).upd ?_
  have t8 : TSame _ (upd (upd H6 pt (.tup acc)) x (.ins CN dx (putF "ties" (V.ref pt) [("points", .ref p), ("core", .ref pc)]))) := TSame.mut (s47 _ _ hx4) fun xs z => nomatch z
  exact ⟨dx, p, o, pc, pt, acc, upd_same, ho, (upd_ne npx).trans (s47 _ _ hp4), (upd_ne ncx).trans (s47 _ _ hc4), (upd_ne ntx).trans et, ps2_t (s7.tup.trans t8) ea'⟩
end
end K81
end

section
open PySem PySem.Spec PyProof.Rows L2

namespace K81
local macro_rules | `(tactic| walk_at "s1") => `(tactic| first
  | with_reducible refine r_seq ?_
  | with_reducible refine r_asg ?_
  | with_reducible refine r_ret ?_
  | with_reducible refine r_if ?_
  | with_reducible refine r_app ?_
  | with_reducible refine r_drop ?_
  | with_reducible refine r_asgS ?_
  | with_reducible refine r_op ?_
  | with_reducible refine r_c ?_
  | ((with_reducible refine' r_var ?hv ?_); (case hv => exact rfl))
  | with_reducible refine r_cb ?_
  | with_reducible refine r_cons ?_
  | with_reducible refine r_nil ?_
  | with_reducible refine r_test ?_
  | with_reducible refine r_tB ?_
  | with_reducible refine r_not ?_
  | with_reducible refine r_and ?_
  | with_reducible refine r_or ?_
  | with_reducible refine r_call ?_
  | with_reducible refine r_tup ?_
  | with_reducible refine r_for1 ?_
  | with_reducible refine r_for2 ?_
  | with_reducible refine r_forT ?_
  | with_reducible refine r_forL ?_
  | with_reducible refine r_lc1 ?_
  | with_reducible refine r_lcT ?_
  | with_reducible refine r_lcL ?_
  | with_reducible refine r_lcE ?_
  | with_reducible refine r_lst ?_
  | with_reducible refine r_yes ?_
  | with_reducible refine r_next ?_
  | with_reducible refine r_nat ?_
  | with_reducible refine r_nat1 ?_
  | with_reducible refine r_i0 ?_
  | with_reducible refine r_int1 ?_
  | ((with_reducible refine' r_eq ?hs ?_); (case hs => exact rfl))
  | ((with_reducible refine' r_ne ?hs ?_); (case hs => exact rfl))
  | with_reducible refine r_bitT ?_
  | with_reducible refine r_tfld ?_
  | with_reducible refine r_tsfld ?_
  | with_reducible refine r_make ?_
  | with_reducible refine r_bl ?_)
local macro_rules | `(tactic| walk_at "go") => `(tactic| repeat walk_at "s1")

section
variable {P : Program} {w : World} {K : PySem.W.Frag} {mg : Str → Option Value} {base : Heap} {CN CR : Addr}
def sp_net_len (K : PySem.W.Frag) (CN : Addr) : Sp := fun vs H Q _ => ∃ (x : Addr) (ss : List Str) (c : Core), vs = [.ref x] ∧ NetAt CN H x ss c ∧ Q (nV ss.length) H
theorem c_net_len (B : Bi mg) (CL : ClsN K CN) (D : ∃ f fd, Meth K CN "__len__" f ∧ C8.Fun K "__len__" "Net.__len__" s_net_len f fd ∧ Binds K fd ["self"] []) : C8.Met P w K mg base 1 CN "__len__" (sp_net_len K CN) [] := by
  obtain ⟨f, fd, me, F, b⟩ := D
  have nd := sc_net_len.nd
  refine C8.met0 CL.cls me F b sc_net_len (fun vs H Q E h => by obtain ⟨x, ss, c, rfl, _⟩ := h; rfl) fun cdv A outer s H vs Q E hr h => ?_
  obtain ⟨x, ss, c, rfl, ⟨dx, p, o, pc, pt, ts, hx, ho, hp, hc, ht, _⟩, k⟩ := h
  refine ⟨(tRet (tCB (rLenS K) (tCons (tFld K (tVar 0) "points") tNil))),
      (pss_one (ps_ret (pe_callB call_len_seq (by rfl) B.len PySem.boot_len (pa_cons (pe_fld (pv 0) rfl) pa_nil)))), ?_⟩
  change tRet _ _ [some (V.ref x)] H
  walk_at "go"
  refine r_fld hx CL.cls CL.points rfl ?_
  walk_at "go"
  refine r_lenTS (sqF hp) ?_
  rw [List.length_map]
  exact k
def TieT (ss : List Str) (H : Hp) (x : V) (p : Nat × Nat) : Prop := TieOk ss.length p ∧ ∃ b s1 s2, x = .ref b ∧ ss[p.1]? = some s1 ∧ ss[p.2]? = some s2 ∧ H b = some (.tup [.str s1, .str s2])
theorem TieT.t {ss : List Str} {H H' : Hp} {x : V} {p : Nat × Nat} (e : TSame H H') (h : TieT ss H x p) : TieT ss H' x p := by
  obtain ⟨h1, b, s1, s2, h2, h3, h4, h5⟩ := h
  exact ⟨h1, b, s1, s2, h2, h3, h4, e _ _ h5⟩
theorem TieT.any {ss : List Str} {H : Hp} {x : V} {p : Nat × Nat} (h : TieT ss H x p) : TieAt ss H x p := by
  obtain ⟨h1, b, s1, s2, h2, h3, h4, h5⟩ := h
  exact ⟨h1, b, s1, s2, h2, h3, h4, .inl h5⟩
def sp_made_net (K : PySem.W.Frag) (CN : Addr) : Sp := fun vs H Q _ => ∃ (p q : V) (ss : List Str) (c : Core), vs = [p, q] ∧ PtsT H p ss ∧ IT H q c ∧ NetP ss c ∧ Res H Q fun v H' => NetV CN H' v ss c
theorem c_made_net (B : Bi mg) (c_net_init : C8.Mak P w K mg base 3 "Net" CN (sp_net_init K CN) []) (c_core_ties : C8.Cal P w K mg base 1 "core_ties" (sp_core_ties K) []) (D : DB K mg "made_net" s_made_net ["points", "core"]) : C8.Cal P w K mg base 5 "made_net" (sp_made_net K CN) [] := by
  obtain ⟨f, fd, F, b⟩ := D.ex
  have nd := sc_made_net.nd
  refine C8.cal0 F b .nil sc_made_net (fun vs H Q E h => by obtain ⟨p, q, ss, c, rfl, _⟩ := h; rfl) fun cdv A outer s H vs Q E hr h => ?_
  obtain ⟨_, _, ss, c, rfl, ⟨p, o, rfl, ho, hp⟩, ⟨q, rfl, hq⟩, N, k⟩ := h
  have five := N.five
  have hcl := N.good.1
  refine ⟨(tRet (tMake CN (sp_net_init K CN) [] C8.E0 (tCons (tVar 0) (tCons (tLc (iTup K (tCall (sp_core_ties K) [] C8.E0 (tCons (tVar 1) tNil))) (gTup K 2 (gCons (gName 2) (gCons (gName 3) gNil))) tYes (tTup (tCons (tOp (rIxT K) (tVar 0) (tVar 2)) (tCons (tOp (rIxT K) (tVar 0) (tVar 3)) tNil))) [2, 3]) tNil)))),
      (pss_one (ps_ret (C8.pe_mk c_net_init hr (by decide) rfl (pa_cons (pv 0) (pa_cons (pe_lc (own := [("i", 2), ("k", 3)]) (g := (gTup K 2 (gCons (gName 2) (gCons (gName 3) gNil)))) (tt := tYes) (te := (tTup (tCons (tOp (rIxT K) (tVar 0) (tVar 2)) (tCons (tOp (rIxT K) (tVar 0) (tVar 3)) tNil)))) rfl nd (pi_tup (C8.pe_c c_core_ties hr (by decide) rfl (pa_cons (pv 1) pa_nil))) (blkOk_by (N := ["points", "core", "i", "k"]) (sc := C8.fnScope s_made_net) (own := [("i", 2), ("k", 3)]) (by decide +kernel)) (fun _ _ _ _ _ => (pg_tup rfl (pgs_cons (pg_name (i := 2) nd rfl (by first | exact Or.inl rfl | exact Or.inr rfl)) (pgs_cons (pg_name (i := 3) nd rfl (by first | exact Or.inl rfl | exact Or.inr rfl)) pgs_nil)))) (fun _ _ _ _ _ => pts_nil) (fun _ _ _ _ _ => (pe_tup (pa_cons (pe_ix ix_tup (pv 0) (pv 2) (fun _ _ => rfl)) (pa_cons (pe_ix ix_tup (pv 0) (pv 3) (fun _ _ => rfl)) pa_nil))))) pa_nil))))), ?_⟩
  change tRet _ _ [some (V.ref p), some (V.ref q), none, none] H
  walk_at "go"
  refine ⟨_, c, rfl, ⟨q, rfl, hq⟩, by omega, fun v5 H5 s5 h5 => ?_⟩
  obtain ⟨pp, xs, rfl, hpp, pxs⟩ := h5
  have hxl := Paired.length pxs
  have hfew := ties_few (c := c) (by omega)
  refine c_t (xs := xs) (fun i acc H' => Paired (TieT ss H') acc ((ties c).take i)) (fun _ _ _ _ e r => L2.Paired.mapP r fun _ _ z => z.t e) hpp .nil (fun D acc i y H' hD hy hi s e z r => ?_) (fun l H6 acc nl s6 el _ ea => ?_)
  · have hi' : i < (ties c).length := by omega
    obtain ⟨y', hy', bb, rfl, hbb⟩ := K81.Paired.get pxs (List.getElem?_eq_getElem hi')
    rw [hy] at hy'
    cases hy'
    generalize hti : (ties c)[i] = ti at *
    have hmt : ti ∈ ties c := by rw [← hti]; exact List.getElem_mem _
    have hget : (ties c)[i]? = some ti := by rw [List.getElem?_eq_getElem hi', hti]
    have m := (mem_ties hcl).mp hmt
    refine ⟨bb, _, rfl, SqT.of (s _ _ hbb), rfl, _, _, rfl, _, _, rfl, rfl, ?_⟩
    refine ⟨rfl, ?_⟩
    walk_at "go"
    refine iteT ?_
    walk_at "go"
    refine r_ixTS (sqF (s _ _ (s5 _ _ hp))) (sg_at (show ti.1 < _ by omega)) ?_
    walk_at "go"
    refine r_ixTS (sqF (s _ _ (s5 _ _ hp))) (sg_at m.2.1) ?_
    walk_at "go"
    refine ⟨by show 2 ≤ sizeLine; decide, fun q nq => ?_⟩
    obtain ⟨s6, eq⟩ := layT nq [V.str (sg ss ti.1), V.str (sg ss ti.2)]
    refine lc_yes (fun _ _ _ _ e r => L2.Paired.mapP r fun _ _ z => z.t e) hD (s.trans s6) (s6 _ _ e) z (by omega) ?_
    rw [List.take_add_one, hget]
    exact Paired.snoc (L2.Paired.mapP r fun _ _ z => z.t s6.tup) ⟨⟨by omega, m.2.1, by omega⟩, q, _, _, rfl, sg_get (by omega), sg_get m.2.1, eq⟩
  rw [List.take_of_length_le (by omega)] at ea
  walk_at "go"
  intro x dx hx hdx hne
  have s56 := s5.trans s6
  have sm : Same H (upd (upd H6 dx (.own x)) x (.ins CN dx [])) := fun b w e => by
    rw [upd_ne (ne_of_none (s56 _ _ e) hx), upd_ne (ne_of_none (s56 _ _ e) hdx)]
    exact s56 _ _ e
  have sm6 : Same H6 (upd (upd H6 dx (.own x)) x (.ins CN dx [])) := fun b w e => by
    rw [upd_ne (ne_of_none e hx), upd_ne (ne_of_none e hdx)]
    exact e
  have pt : Paired (TieAt ss (upd (upd H6 dx (.own x)) x (.ins CN dx []))) acc (ties c) := L2.Paired.mapP ea fun _ _ z => (z.t sm6.tup).any
  refine ⟨x, dx, _, _, ss, ss, ties c, rfl, upd_same, ⟨p, rfl, .inr ⟨o, sm _ _ hp⟩⟩, .refl _, N.val, N.nd, N.srt, N.five, ⟨l, acc, rfl, sm6 _ _ el, pt⟩, fun H' sx n => ⟨rfl, ?_⟩⟩
  rw [coreOf_ties N.good] at n
  exact k _ _ (s56.trans (SX.made hx hdx sx)) ⟨x, rfl, n⟩
def sp_net_of_core (K : PySem.W.Frag) (CN : Addr) : Sp := sp_made_net K CN
theorem c_net_of_core (c_made_net : C8.Cal P w K mg base 5 "made_net" (sp_made_net K CN) []) (D : DB K mg "net_of_core" s_net_of_core ["points", "core"]) : C8.Cal P w K mg base 6 "net_of_core" (sp_net_of_core K CN) [] := by
  obtain ⟨f, fd, F, b⟩ := D.ex
  have nd := sc_net_of_core.nd
  refine C8.cal0 F b .nil sc_net_of_core (fun vs H Q E h => by obtain ⟨p, q, ss, c, rfl, _⟩ := h; rfl) fun cdv A outer s H vs Q E hr h => ?_
  obtain ⟨p, q, ss, c, rfl, hp, hq, N, k⟩ := h
  refine ⟨(tRet (tCall (sp_made_net K CN) [] C8.E0 (tCons (tVar 0) (tCons (tVar 1) tNil)))),
      (pss_one (ps_ret (C8.pe_c c_made_net hr (by decide) rfl (pa_cons (pv 0) (pa_cons (pv 1) pa_nil))))), ?_⟩
  change tRet _ _ [some p, some q] H
  walk_at "go"
  exact ⟨p, q, ss, c, rfl, hp, hq, N, k⟩
end
end K81
end

section
namespace K81
open PySem PySem.Spec PyProof.Rows L2
/-! ### dicts by cores -/
def ck (c : Core) : List Key := c.map fun n : Nat => Sum.inl (n : Int)
theorem ck_v (c : Core) : (ck c).map kV = c.map nV := by
  rw [ck, List.map_map]
  rfl
theorem ck_inj : ∀ {c d : Core}, ck c = ck d → c = d
  | [], [], _ => rfl
  | [], _ :: _, h => by simp [ck] at h
  | _ :: _, [], h => by simp [ck] at h
  | a :: r, b :: q, h => by
    simp only [ck, List.map_cons, List.cons.injEq, Sum.inl.injEq] at h
    rw [ck_inj (c := r) (d := q) h.2, show a = b by omega]
def dC (cs : List Core) (vs : List V) : List (List Key × V) := (cs.zip vs).map fun p => (ck p.1, p.2)
theorem dC_len {cs : List Core} {vs : List V} (h : vs.length = cs.length) : (dC cs vs).length = cs.length := by
  simp [dC, h]
theorem dC_no : ∀ {cs : List Core} {vs : List V} {c : Core}, c ∉ cs → valV (dC cs vs) (ck c) = none
  | [], _, _, _ => rfl
  | _ :: _, [], _, _ => rfl
  | a :: r, v :: vs, c, h => by
    rw [List.mem_cons, not_or] at h
    show valV ((ck a, v) :: dC r vs) (ck c) = none
    rw [valV_neg (fun e => h.1 (ck_inj e).symm)]
    exact dC_no h.2
theorem dC_at : ∀ {cs : List Core} {vs : List V} {i : Nat} {c : Core} {v : V}, cs.Nodup → cs[i]? = some c → vs[i]? = some v → valV (dC cs vs) (ck c) = some v
  | [], _, _, _, _, _, h, _ => by simp at h
  | _ :: _, [], _, _, _, _, _, h => by simp at h
  | a :: r, u :: vs, 0, c, v, _, h1, h2 => by
    simp only [List.getElem?_cons_zero, Option.some.injEq] at h1 h2
    subst h1 h2
    exact valV_pos (p := (ck a, u)) rfl
  | a :: r, u :: vs, i + 1, c, v, nd, h1, h2 => by
    simp only [List.getElem?_cons_succ] at h1 h2
    rw [List.nodup_cons] at nd
    show valV ((ck a, u) :: dC r vs) (ck c) = some v
    rw [valV_neg (fun e => nd.1 (by rw [ck_inj e]; exact List.mem_of_getElem? h1))]
    exact dC_at nd.2 h1 h2
theorem dC_yes {cs : List Core} {vs : List V} {c : Core} (nd : cs.Nodup) (hl : vs.length = cs.length) (h : c ∈ cs) : ∃ (i : Nat) (v : V), cs[i]? = some c ∧ vs[i]? = some v ∧ valV (dC cs vs) (ck c) = some v := by
  obtain ⟨i, hi, e⟩ := List.mem_iff_getElem.mp h
  have h1 : cs[i]? = some c := e ▸ List.getElem?_eq_getElem hi
  have h2 : vs[i]? = some (vs[i]'(by omega)) := List.getElem?_eq_getElem (by omega)
  exact ⟨i, _, h1, h2, dC_at nd h1 h2⟩
theorem dC_put {cs : List Core} {vs : List V} {c : Core} {v : V} (h : c ∉ cs) (hl : vs.length = cs.length) : putK (dC cs vs) (ck c) v = dC (cs ++ [c]) (vs ++ [v]) := by
  rw [putK_new _ (dC_no h), dC, dC, List.zip_append hl.symm, List.map_append]
  rfl
/-! ### a while loop by its turns -/
theorem r_while {c : TT} {tb : TS} {D : Ends} {σ : L2.St} {H : Hp} (M : Nat) (Pv : Nat → L2.St → Hp → Prop) (h0 : Pv 0 σ H)
    (hs : ∀ k σ H, Pv k σ H → c σ H fun b H1 => if b = true then ∃ N : L2.St → Hp → Prop, (∀ σ' H', N σ' H' → ∃ m', m' < M - k ∧ ∃ k', m' = M - k' ∧ Pv k' σ' H') ∧ tb { D with nx := N, ct := N, bk := D.nx } σ H1 else D.nx σ H1) : tWhile c tb D σ H := by
  refine ⟨fun m σ H => ∃ k, m = M - k ∧ Pv k σ H, ⟨M - 0, 0, rfl, h0⟩, ?_⟩
  rintro m σ H ⟨k, rfl, p⟩
  exact hs k σ H p
theorem wh_go {tb : TS} {D : Ends} {σ : L2.St} {H : Hp} {M k : Nat} {Pv : Nat → L2.St → Hp → Prop} (hk : k < M) (h : tb { D with nx := Pv (k + 1), ct := Pv (k + 1), bk := D.nx } σ H) :
    ∃ N : L2.St → Hp → Prop, (∀ σ' H', N σ' H' → ∃ m', m' < M - k ∧ ∃ k', m' = M - k' ∧ Pv k' σ' H') ∧ tb { D with nx := N, ct := N, bk := D.nx } σ H :=
  ⟨Pv (k + 1), fun σ' H' p => ⟨M - (k + 1), by omega, k + 1, rfl, p⟩, h⟩
theorem r_disp1T {tk tv : TE} {σ : L2.St} {H : Hp} {Q : VK} (h : ∀ p, H p = none → tk σ (upd H p (.dT [])) fun x H1 => tv σ H1 fun y H2 => H2 p = some (.dT []) ∧ ∃ (b : Addr) (ks : List Key), x = .ref b ∧ H2 b = some (.tup (ks.map kV)) ∧ Q (.ref p) (upd H2 p (.dT [(ks, y)]))) : tDisp1T tk tv σ H Q := h
theorem r_din {td ty : TE} {σ : L2.St} {H : Hp} {Q : VK} (h : ty σ H fun y H1 => td σ H1 fun x H2 => ∃ a o, x = .ref a ∧ DGet H2 a y o ∧ Q (.bl o.isSome) H2) : tDIn ty td σ H Q := h
theorem r_dnin {td ty : TE} {σ : L2.St} {H : Hp} {Q : VK} (h : ty σ H fun y H1 => td σ H1 fun x H2 => ∃ a o, x = .ref a ∧ DGet H2 a y o ∧ Q (.bl (!o.isSome)) H2) : tDNotIn ty td σ H Q := h
theorem r_dget {td ty : TE} {σ : L2.St} {H : Hp} {Q : VK} (h : td σ H fun x H1 => ty σ H1 fun y H2 => ∃ a v, x = .ref a ∧ DGet H2 a y (some v) ∧ Q v H2) : tDGet td ty σ H Q := h
theorem r_dput {td ty tv : TE} {D : Ends} {σ : L2.St} {H : Hp} (h : tv σ H fun v H1 => td σ H1 fun x H2 => ty σ H2 fun y H3 => ∃ a H4, x = .ref a ∧ DPut H3 a y v H4 ∧ D.nx σ H4) : sDPut td ty tv D σ H := h
theorem r_aug {i : Nat} {te : TE} {ti : TIp} {D : Ends} {σ : L2.St} {H : Hp} {x : V} (hx : σ[i]? = some (some x)) (h : te σ H fun y H1 => ti x y H1 fun z H2 => D.nx (σ.set i (some z)) H2) : tAug i te ti D σ H := ⟨x, hx, h⟩
section
variable {H : Hp} {d b : Addr} {cs : List Core} {vs : List V} {c : Core} {v : V}
theorem g_no (e : H d = some (.dT (dC cs vs))) (eb : H b = some (.tup (c.map nV))) (h : c ∉ cs) : DGet H d (.ref b) none := by
  have := DGet.t (k := ck c) e (by rw [ck_v]; exact eb)
  rw [dC_no h] at this
  exact this
theorem g_yes (e : H d = some (.dT (dC cs vs))) (eb : H b = some (.tup (c.map nV))) {i : Nat} (nd : cs.Nodup) (h1 : cs[i]? = some c) (h2 : vs[i]? = some v) : DGet H d (.ref b) (some v) := by
  have := DGet.t (k := ck c) e (by rw [ck_v]; exact eb)
  rw [dC_at nd h1 h2] at this
  exact this
theorem g_put (e : H d = some (.dT (dC cs vs))) (eb : H b = some (.tup (c.map nV))) (h : c ∉ cs) (hl : vs.length = cs.length) (z : cs.length ≤ 100000) : DPut H d (.ref b) v (upd H d (.dT (dC (cs ++ [c]) (vs ++ [v])))) := by
  have := DPut.t (k := ck c) (v := v) e (by rw [ck_v]; exact eb) (by rw [dC_len hl]; exact Nat.lt_of_le_of_lt z (by decide))
  rw [dC_put h hl] at this
  exact this
end
end K81
end

section
open PySem PySem.Spec PyProof.Rows L2

namespace K81
local macro_rules | `(tactic| walk_at "s1") => `(tactic| first
  | with_reducible refine r_seq ?_
  | with_reducible refine r_asg ?_
  | with_reducible refine r_ret ?_
  | with_reducible refine r_if ?_
  | with_reducible refine r_app ?_
  | with_reducible refine r_drop ?_
  | with_reducible refine r_asgS ?_
  | with_reducible refine r_op ?_
  | with_reducible refine r_c ?_
  | ((with_reducible refine' r_var ?hv ?_); (case hv => exact rfl))
  | with_reducible refine r_cb ?_
  | with_reducible refine r_cons ?_
  | with_reducible refine r_nil ?_
  | with_reducible refine r_test ?_
  | with_reducible refine r_tB ?_
  | with_reducible refine r_not ?_
  | with_reducible refine r_and ?_
  | with_reducible refine r_or ?_
  | with_reducible refine r_call ?_
  | with_reducible refine r_tup ?_
  | with_reducible refine r_for1 ?_
  | with_reducible refine r_for2 ?_
  | with_reducible refine r_forT ?_
  | with_reducible refine r_forL ?_
  | with_reducible refine r_lc1 ?_
  | with_reducible refine r_lcT ?_
  | with_reducible refine r_lcL ?_
  | with_reducible refine r_lcE ?_
  | with_reducible refine r_lst ?_
  | with_reducible refine r_yes ?_
  | with_reducible refine r_next ?_
  | with_reducible refine r_nat ?_
  | with_reducible refine r_nat1 ?_
  | with_reducible refine r_i0 ?_
  | with_reducible refine r_int1 ?_
  | ((with_reducible refine' r_eq ?hs ?_); (case hs => exact rfl))
  | ((with_reducible refine' r_ne ?hs ?_); (case hs => exact rfl))
  | with_reducible refine r_bitT ?_
  | with_reducible refine r_tfld ?_
  | with_reducible refine r_tsfld ?_
  | with_reducible refine r_make ?_
  | with_reducible refine r_din ?_
  | with_reducible refine r_dnin ?_
  | with_reducible refine r_dget ?_
  | with_reducible refine r_dput ?_
  | ((with_reducible refine' r_aug ?hv ?_); (case hv => exact rfl))
  | with_reducible refine r_bl ?_)
local macro_rules | `(tactic| walk_at "go") => `(tactic| repeat walk_at "s1")

abbrev s_reached_cores : Stmt := topS 27
theorem sc_reached_cores : FnScope ["core", "found", "known", "at", "point", "after"] ["core"] (C8.fnScope s_reached_cores) := C8.fnScope_by (by decide +kernel)

section
variable {P : Program} {w : World} {K : PySem.W.Frag} {mg : Str → Option Value} {base : Heap} {CN CR : Addr}
theorem inner_ok {n : Nat} {c : Core} (hn : n ≤ 5) (h : Good n c) {k : Nat} (hk : k < (stage n c k).length) {j : Nat} (hj : j ≤ n) : BOk n (inner (stage n c k) (hd (stage n c k) k).1 (hd (stage n c k) k).2 j) :=
  (stage_ok h k).inner (hd_mem hk) j hj
theorem pre_at {S T : Bfs} (h : S <+: T) {k : Nat} (hk : k < S.length) : (T.map (·.1))[k]? = some (hd S k).1 := by
  obtain ⟨U, rfl⟩ := h
  rw [List.getElem?_map, List.getElem?_append_left hk, hd_get hk]
  rfl
theorem stage_len_le {n : Nat} {c : Core} {k : Nat} (h : k ≤ (stage n c k).length) (hk : k < (stage n c k).length) : k + 1 ≤ (stage n c (k + 1)).length := Nat.le_trans hk (stage_step n c k).length_le
def sp_reached_cores (K : PySem.W.Frag) : Sp := fun vs H Q _ => ∃ (p : V) (c : Core) (n : Nat), vs = [p] ∧ IT H p c ∧ Good n c ∧ n ≤ 5 ∧ Res H Q fun v H' => TupOf IT H' v ((reach n c).map (·.1))
theorem c_reached_cores (B : Bi mg) (c_pressed_core : C8.Cal P w K mg base 1 "pressed_core" (sp_pressed_core K) []) (D : DB K mg "reached_cores" s_reached_cores ["core"]) : C8.Cal P w K mg base 2 "reached_cores" (sp_reached_cores K) [] := by
  obtain ⟨f, fd, F, b⟩ := D.ex
  have nd := sc_reached_cores.nd
  refine C8.cal0 F b .nil sc_reached_cores (fun vs H Q E h => by obtain ⟨p, c, n, rfl, _⟩ := h; rfl) fun cdv A outer s H vs Q E hr h => ?_
  obtain ⟨_, c, n, rfl, ⟨p, rfl, hp⟩, hg, hn, k⟩ := h
  refine ⟨(tSeq (tAsg (tLst (tCons (tVar 0) tNil)) (gName 1))
      (tSeq (tAsg (tDisp1T (tVar 0) (tC (.bl true))) (gName 2))
      (tSeq (tAsg (tC (.int 0)) (gName 3))
      (tSeq (tWhile (tTest (tOp rLtI (tVar 3) (tCB (rLenS K) (tCons (tVar 1) tNil)))) (tSeq (tFor (iRng1 (tCons (tCB (rLenS K) (tCons (tVar 0) tNil)) tNil)) (gName 4) (tSeq (tAsg (tCall (sp_pressed_core K) [] C8.E0 (tCons (tOp (rIxL K) (tVar 1) (tVar 3)) (tCons (tVar 4) tNil))) (gName 5))
          (tIfS (tB (tDNotIn (tVar 5) (tVar 2))) (tSeq (sDPut (tVar 2) (tVar 5) (tC (.bl true)))
            (tDrop (tBM K "list" rAppend (tVar 1) (tCons (tVar 5) tNil)))) tNext)))
        (tAug 3 (tC (.int 1)) (ipI fun i j => i + j))))
      (tRet (tCB (rTupOf K) (tCons (tVar 1) tNil))))))),
      (pss_cons (ps_set (i := 1) nd rfl (by first | exact Or.inl rfl | exact Or.inr rfl) (pe_lst (pa_cons (pv 0) pa_nil)))
      (pss_cons (ps_set (i := 2) nd rfl (by first | exact Or.inl rfl | exact Or.inr rfl) (pe_disp1T (hu_of hr) (pv 0) pe_bl))
      (pss_cons (ps_set (i := 3) nd rfl (by first | exact Or.inl rfl | exact Or.inr rfl) pe_int)
      (pss_cons (ps_while PassesOwn.never (pt_cmpR op_lt (pv 3) (pe_callB call_len_seq (by rfl) B.len PySem.boot_len (pa_cons (pv 1) pa_nil)) (nomark _)) (pss_cons (ps_for PassesOwn.never rfl (pi_range1 (by rfl) B.range (pa_cons (pe_callB call_len_seq (by rfl) B.len PySem.boot_len (pa_cons (pv 0) pa_nil)) pa_nil)) (pg_name (i := 4) nd rfl (by first | exact Or.inl rfl | exact Or.inr rfl)) (pss_cons (ps_set (i := 5) nd rfl (by first | exact Or.inl rfl | exact Or.inr rfl) (C8.pe_c c_pressed_core hr (by decide) rfl (pa_cons (pe_ix ix_list (pv 1) (pv 3) (fun _ _ => rfl)) (pa_cons (pv 4) pa_nil))))
          (pss_one (ps_if (pt_cmp (pc_dnotin (hu_of hr) (pv 5) (pv 2)) rfl) (pss_cons (ps_dput (hu_of hr) (pv 2) (pv 5) pe_bl rfl)
            (pss_one (ps_expr (pe_bm PySem.F.plainAttrs_list PySem.F.slot_list_append PySem.F.type_list_append mt_append (pv 1) (pa_cons (pv 5) pa_nil))))) pss_nil))))
        (pss_one (ps_aug (i := 3) nd rfl (by first | exact Or.inl rfl | exact Or.inr rfl) pe_int ip_add))))
      (pss_one (ps_ret (pe_callTy call_tuple_of (by rfl) B.tuple (by decide +kernel) (pa_cons (pv 1) pa_nil)))))))), ?_⟩
  change tSeq _ _ _ [some (V.ref p), none, none, none, none, none] H
  walk_at "go"
  refine ⟨by show 1 ≤ sizeLine; decide, fun l nl => ?_⟩
  obtain ⟨s1, el⟩ := layL nl [V.ref p]
  walk_at "go"
  refine r_disp1T fun d nd0 => ?_
  have s2 : Same (upd H l (.lst [V.ref p])) (upd (upd H l (.lst [V.ref p])) d (.dT [])) := Same.lay nd0
  walk_at "go"
  refine ⟨upd_same, p, ck c, rfl, (s1.trans s2 _ _ hp).trans (by rw [ck_v]), ?_⟩
  walk_at "go"
  have ndH : H d = none := by
    cases hh : H d with
    | none => rfl
    | some o => rw [s1 _ _ hh] at nd0; cases nd0
  have s3 : Same H (upd (upd (upd H l (.lst [V.ref p])) d (.dT [])) d (.dT [(ck c, .bl true)])) := (s1.trans s2).chg ndH
  have hld : l ≠ d := by rintro rfl; rw [el] at nd0; cases nd0
  have el3 : (upd (upd (upd H l (.lst [V.ref p])) d (.dT [])) d (.dT [(ck c, V.bl true)])) l = some (.lst [V.ref p]) := by
    rw [upd_ne hld, upd_ne hld, el]
  refine r_while 1025 (fun k σ' H' => ∃ v4 v5 fs vs, σ' = [some (V.ref p), some (V.ref l), some (V.ref d), some (nV k), v4, v5] ∧ k ≤ (stage n c k).length ∧ Same H H' ∧ H' l = some (.lst fs) ∧ Paired (IT H') fs ((stage n c k).map (·.1)) ∧ H' d = some (.dT (dC ((stage n c k).map (·.1)) vs)) ∧ vs.length = ((stage n c k).map (·.1)).length) ?_ ?_
  · exact ⟨_, _, [V.ref p], [V.bl true], rfl, Nat.zero_le _, s3, el3, .cons ⟨p, rfl, s3 _ _ hp⟩ .nil, upd_same, rfl⟩
  rintro k' σ' H1 ⟨v4, v5, fs, vs, rfl, hk0, s4, el4, pf, ed4, hvl⟩
  have hok := stage_ok hg k'
  have hfew := hok.few hn
  have hfl := Paired.length pf
  rw [List.length_map] at hfl
  walk_at "go"
  refine r_lenL el4 ?_
  walk_at "go"
  refine ite2 (fun hb => ?_) (fun hb => ?_)
  · have hk : k' < (stage n c k').length := by
      have := of_decide_eq_true hb
      omega
    refine wh_go (by omega) ?_
    walk_at "go"
    refine r_lenT (s4 _ _ hp) ?_
    rw [List.length_map, hg.1]
    refine w_r1 (fun j σ' H' => ∃ v4 v5 fs vs, σ' = [some (V.ref p), some (V.ref l), some (V.ref d), some (nV k'), v4, v5] ∧ Same H H' ∧ H' l = some (.lst fs) ∧ Paired (IT H') fs ((inner (stage n c k') (hd (stage n c k') k').1 (hd (stage n c k') k').2 j).map (·.1)) ∧ H' d = some (.dT (dC ((inner (stage n c k') (hd (stage n c k') k').1 (hd (stage n c k') k').2 j).map (·.1)) vs)) ∧ vs.length = ((inner (stage n c k') (hd (stage n c k') k').1 (hd (stage n c k') k').2 j).map (·.1)).length) (by omega) ?_ ?_ ?_
    · exact ⟨_, _, fs, vs, rfl, s4, el4, pf, ed4, hvl⟩
    · rintro j σ' H2 hj ⟨v4, v5, fs, vs, rfl, s5, el5, pf, ed5, hvl⟩
      have hT := inner_ok hn hg hk (Nat.le_of_lt hj)
      have hTf := hT.few hn
      have hat := pre_at (inner_pre (stage n c k') (hd (stage n c k') k').1 (hd (stage n c k') k').2 j) hk
      rw [inner_succ]
      generalize hTe : inner (stage n c k') (hd (stage n c k') k').1 (hd (stage n c k') k').2 j = T at *
      have hhg := hok.good _ (hd_mem hk)
      generalize hc1 : hd (stage n c k') k' = h1 at *
      obtain ⟨x, hx, a, rfl, ha⟩ := K81.Paired.get pf hat
      have hfl := Paired.length pf
      rw [List.length_map] at hfl hvl
      walk_at "go"
      refine r_ixL el5 hx ?_
      walk_at "go"
      refine ⟨_, h1.1, j, rfl, ⟨a, rfl, ha⟩, by rw [hhg.1]; exact hj, by rw [hhg.1]; omega, fun v H3 s6 hv => ?_⟩
      obtain ⟨q, rfl, hq⟩ := hv
      walk_at "go"
      by_cases hin : press h1.1 j ∈ T.map (·.1)
      · obtain ⟨i, u, e1, e2, e3⟩ := dC_yes (vs := vs) hT.nd (by rw [List.length_map]; exact hvl) hin
        refine ⟨d, _, rfl, g_yes (s6 _ _ ed5) hq hT.nd e1 e2, ?_⟩
        walk_at "go"
        refine iteF ?_
        refine ⟨_, _, fs, vs, rfl, s5.trans s6, s6 _ _ el5, ?_⟩
        rw [visit, if_pos hin]
        exact ⟨it_t s6.tup pf, s6 _ _ ed5, by rw [List.length_map]; exact hvl⟩
      · refine ⟨d, _, rfl, g_no (s6 _ _ ed5) hq hin, ?_⟩
        walk_at "go"
        refine iteT ?_
        walk_at "go"
        refine ⟨d, _, rfl, g_put (s6 _ _ ed5) hq hin (by rw [List.length_map]; exact hvl) (by rw [List.length_map]; omega), ?_⟩
        have el7 : (upd H3 d (.dT (dC (T.map (·.1) ++ [press h1.1 j]) (vs ++ [V.bl true])))) l = some (.lst fs) := by
          rw [upd_ne hld]
          exact s6 _ _ el5
        have t7 : TSame H3 (upd H3 d (.dT (dC (T.map (·.1) ++ [press h1.1 j]) (vs ++ [V.bl true])))) := TSame.dT (s6 _ _ ed5)
        walk_at "go"
        refine r_tyL el7 ?_
        walk_at "go"
        refine r_append el7 (by omega) ?_
        have t8 := TSame.lst (o := .lst (fs ++ [V.ref q])) el7
        refine ⟨_, _, _, vs ++ [V.bl true], rfl, ((s5.trans s6).chg ndH).chg nl, upd_same, ?_⟩
        rw [visit, if_neg hin, List.map_append]
        refine ⟨Paired.snoc (it_t (s6.tup.trans (t7.trans t8)) pf) ⟨q, rfl, t8 _ _ (t7 _ _ hq)⟩, ?_, ?_⟩
        · rw [upd_ne hld.symm, upd_same]
          rfl
        · simp [hvl]
    · rintro σ' H2 ⟨v4, v5, fs, vs, rfl, s5, el5, pf, ed5, hvl⟩
      walk_at "go"
      refine ⟨_, _, rfl, rfl, ?_⟩
      rw [← stage_go hk] at pf ed5 hvl
      exact ⟨_, _, fs, vs, rfl, stage_len_le hk0 hk, s5, el5, pf, ed5, hvl⟩
  · have hk : (stage n c k').length ≤ k' := by
      have := of_decide_eq_false (Bool.eq_false_iff.mpr hb)
      omega
    walk_at "go"
    refine r_tupOf el4 fun q nq => ?_
    obtain ⟨s5, eq⟩ := layT nq fs
    rw [reach_end hn hg (by omega) hk] at pf
    exact k _ _ (s4.trans s5) ⟨q, fs, rfl, eq, it_t s5.tup pf⟩
end
end K81
end

section
namespace K81
open PySem PySem.Spec PyProof.Rows L2
theorem r_gN {i : Nat} {x : V} {σ : L2.St} {H : Hp} {R : L2.St → Hp → Prop} (h : R (σ.set i (some x)) H) : gName i x σ H R := h
def natDs (c : List Nat) : List PyData := c.map fun n : Nat => .int (n : Int)
def strDs (ss : List Str) : List PyData := ss.map .str
def pairDs (ps : List (Str × Str)) : List PyData := ps.map fun p => .tuple [.str p.1, .str p.2]
section
variable {K : PySem.W.Frag} {H : Hp}
theorem dp_nat : ∀ c : List Nat, DpAll K H (c.map nV) (natDs c)
  | [] => .nil
  | n :: r => .cons (.int _) (dp_nat r)
theorem dp_str : ∀ ss : List Str, DpAll K H (ss.map V.str) (strDs ss)
  | [] => .nil
  | n :: r => .cons (.str _) (dp_str r)
theorem dp_pair : ∀ {xs : List V} {ps : List (Str × Str)}, Paired (PS2 H) xs ps → DpAll K H xs (pairDs ps)
  | _, _, .nil => .nil
  | _, _, .cons ⟨a, e, h⟩ r => by
    subst e
    exact .cons (.tup (SqT.of h) (.cons (.str _) (.cons (.str _) .nil))) (dp_pair r)
end
theorem lay_nat : ∀ c : List Nat, PyData.canLayAll0 (natDs c) = true
  | [] => rfl
  | n :: r => by
    show (PyData.canLay0 (.int (n : Int)) && PyData.canLayAll0 (natDs r)) = true
    rw [lay_nat r]
    rfl
theorem dep_nat : ∀ c : List Nat, PyData.depthAll (natDs c) = 0
  | [] => rfl
  | n :: r => by
    show max (PyData.depth (.int (n : Int))) (PyData.depthAll (natDs r)) = 0
    rw [dep_nat r]
    rfl
theorem lay_str : ∀ {ss : List Str}, (∀ s ∈ ss, PyData.canLay0 (.str s) = true) → PyData.canLayAll0 (strDs ss) = true
  | [], _ => rfl
  | n :: r, h => by
    show (PyData.canLay0 (.str n) && PyData.canLayAll0 (strDs r)) = true
    rw [lay_str (ss := r) fun s hs => h s (List.mem_cons_of_mem _ hs), h n (List.mem_cons_self ..)]
    rfl
theorem dep_str : ∀ ss : List Str, PyData.depthAll (strDs ss) = 0
  | [] => rfl
  | n :: r => by
    show max (PyData.depth (.str n)) (PyData.depthAll (strDs r)) = 0
    rw [dep_str r]
    rfl
theorem lay_pair : ∀ {ps : List (Str × Str)}, (∀ p ∈ ps, PyData.canLay0 (.str p.1) = true ∧ PyData.canLay0 (.str p.2) = true) → PyData.canLayAll0 (pairDs ps) = true
  | [], _ => rfl
  | p :: r, h => by
    show ((PyData.canLay0 (.str p.1) && (PyData.canLay0 (.str p.2) && true)) && PyData.canLayAll0 (pairDs r)) = true
    rw [lay_pair (ps := r) fun s hs => h s (List.mem_cons_of_mem _ hs), (h p (List.mem_cons_self ..)).1, (h p (List.mem_cons_self ..)).2]
    rfl
theorem dep_pair : ∀ ps : List (Str × Str), PyData.depthAll (pairDs ps) ≤ 1
  | [] => Nat.zero_le _
  | p :: r => by
    show max (max 0 (max 0 0) + 1) (PyData.depthAll (pairDs r)) ≤ 1
    have := dep_pair r
    omega
theorem eq_nat : ∀ c d : List Nat, PyData.eqvAll (natDs c) (natDs d) = decide (c = d)
  | [], [] => rfl
  | [], _ :: _ => rfl
  | _ :: _, [] => rfl
  | a :: r, b :: q => by
    show (((a : Int) == (b : Int)) && PyData.eqvAll (natDs r) (natDs q)) = _
    rw [eq_nat r q]
    by_cases h : a = b
    · subst h; simp
    · have : ¬ (a : Int) = (b : Int) := by omega
      simp [h, this]
theorem eq_str : ∀ c : List Str, PyData.eqvAll (strDs c) (strDs c) = true
  | [] => rfl
  | a :: r => by
    show ((a == a) && PyData.eqvAll (strDs r) (strDs r)) = _
    rw [eq_str r]
    simp
theorem eq_pair : ∀ c : List (Str × Str), PyData.eqvAll (pairDs c) (pairDs c) = true
  | [] => rfl
  | a :: r => by
    show (((a.1 == a.1) && ((a.2 == a.2) && true)) && PyData.eqvAll (pairDs r) (pairDs r)) = _
    rw [eq_pair r]
    simp
theorem shp_nat (c : List Nat) : SeqAt.shaped (.tuple (natDs c)) = true := by
  show (PyData.canLayAll0 (natDs c) && decide (PyData.depthAll (natDs c) + 1 ≤ 64)) = true
  rw [lay_nat, dep_nat]
  rfl
theorem shp_str {ss : List Str} (h : ∀ s ∈ ss, PyData.canLay0 (.str s) = true) : SeqAt.shaped (.tuple (strDs ss)) = true := by
  show (PyData.canLayAll0 (strDs ss) && decide (PyData.depthAll (strDs ss) + 1 ≤ 64)) = true
  rw [lay_str h, dep_str]
  rfl
theorem shp_pair {ps : List (Str × Str)} (h : ∀ p ∈ ps, PyData.canLay0 (.str p.1) = true ∧ PyData.canLay0 (.str p.2) = true) : SeqAt.shaped (.tuple (pairDs ps)) = true := by
  show (PyData.canLayAll0 (pairDs ps) && decide (PyData.depthAll (pairDs ps) + 1 ≤ 64)) = true
  rw [lay_pair h]
  have := dep_pair ps
  simp only [Bool.true_and, decide_eq_true_eq]
  omega
section
variable {K : PySem.W.Frag} {H : Hp} {Q : VK} {a b : Addr}
theorem r_eqI {c d : List Nat} (ha : H a = some (.tup (c.map nV))) (hb : H b = some (.tup (d.map nV))) (q : Q (.bl (decide (c = d))) H) : rEqD K (.ref a) (.ref b) H Q :=
  ⟨_, _, .tup (SqT.of ha) (dp_nat c), .tup (SqT.of hb) (dp_nat d), shp_nat c, shp_nat d, by
    show Q (.bl (PyData.eqvAll (natDs c) (natDs d))) H
    rw [eq_nat]
    exact q⟩
theorem r_eqS {c : List Str} (hc : ∀ s ∈ c, PyData.canLay0 (.str s) = true) (ha : SqT K H a (c.map V.str)) (hb : SqT K H b (c.map V.str)) (q : Q (.bl true) H) : rEqD K (.ref a) (.ref b) H Q :=
  ⟨_, _, .tup ha (dp_str c), .tup hb (dp_str c), shp_str hc, shp_str hc, by
    show Q (.bl (PyData.eqvAll (strDs c) (strDs c))) H
    rw [eq_str]
    exact q⟩
theorem r_neS {c : List Str} (hc : ∀ s ∈ c, PyData.canLay0 (.str s) = true) (ha : SqT K H a (c.map V.str)) (hb : SqT K H b (c.map V.str)) (q : Q (.bl false) H) : rNeD K (.ref a) (.ref b) H Q :=
  ⟨_, _, .tup ha (dp_str c), .tup hb (dp_str c), shp_str hc, shp_str hc, by
    show Q (.bl (!PyData.eqvAll (strDs c) (strDs c))) H
    rw [eq_str]
    exact q⟩
theorem r_eqP {c : List (Str × Str)} {xs ys : List V} (hc : ∀ p ∈ c, PyData.canLay0 (.str p.1) = true ∧ PyData.canLay0 (.str p.2) = true) (ha : SqT K H a xs) (hb : SqT K H b ys) (px : Paired (PS2 H) xs c) (py : Paired (PS2 H) ys c) (q : Q (.bl true) H) : rEqD K (.ref a) (.ref b) H Q :=
  ⟨_, _, .tup ha (dp_pair px), .tup hb (dp_pair py), shp_pair hc, shp_pair hc, by
    show Q (.bl (PyData.eqvAll (pairDs c) (pairDs c))) H
    rw [eq_pair]
    exact q⟩
end
theorem Valid.lay {s : Str} (h : Valid s) : PyData.canLay0 (.str s) = true := by
  show s.cps.all (· < 0x110000) = true
  rw [Array.all_eq_true_iff_forall_mem]
  intro c hc
  rcases h.all c (Array.mem_toList_iff.mpr hc) with z | z
  · simp only [LET, List.mem_map, List.mem_range] at z
    obtain ⟨a, h1, h2⟩ := z
    simp only [decide_eq_true_eq]
    omega
  · simp only [DIG, List.mem_map, List.mem_range] at z
    obtain ⟨a, h1, h2⟩ := z
    simp only [decide_eq_true_eq]
    omega
end K81
end

section
open PySem PySem.Spec PyProof.Rows L2

namespace K81
local macro_rules | `(tactic| walk_at "s1") => `(tactic| first
  | with_reducible refine r_seq ?_
  | with_reducible refine r_asg ?_
  | with_reducible refine r_ret ?_
  | with_reducible refine r_if ?_
  | with_reducible refine r_app ?_
  | with_reducible refine r_drop ?_
  | with_reducible refine r_asgS ?_
  | with_reducible refine r_op ?_
  | with_reducible refine r_c ?_
  | ((with_reducible refine' r_var ?hv ?_); (case hv => exact rfl))
  | with_reducible refine r_cb ?_
  | with_reducible refine r_cons ?_
  | with_reducible refine r_nil ?_
  | with_reducible refine r_test ?_
  | with_reducible refine r_tB ?_
  | with_reducible refine r_not ?_
  | with_reducible refine r_and ?_
  | with_reducible refine r_or ?_
  | with_reducible refine r_call ?_
  | with_reducible refine r_tup ?_
  | with_reducible refine r_for1 ?_
  | with_reducible refine r_for2 ?_
  | with_reducible refine r_forT ?_
  | with_reducible refine r_forL ?_
  | with_reducible refine r_lc1 ?_
  | with_reducible refine r_lcT ?_
  | with_reducible refine r_lcL ?_
  | with_reducible refine r_lcE ?_
  | with_reducible refine r_lst ?_
  | with_reducible refine r_yes ?_
  | with_reducible refine r_next ?_
  | with_reducible refine r_nat ?_
  | with_reducible refine r_nat1 ?_
  | with_reducible refine r_i0 ?_
  | with_reducible refine r_int1 ?_
  | ((with_reducible refine' r_eq ?hs ?_); (case hs => exact rfl))
  | ((with_reducible refine' r_ne ?hs ?_); (case hs => exact rfl))
  | with_reducible refine r_bitT ?_
  | with_reducible refine r_tfld ?_
  | with_reducible refine r_tsfld ?_
  | with_reducible refine r_make ?_
  | with_reducible refine r_gN ?_
  | with_reducible refine r_din ?_
  | with_reducible refine r_dnin ?_
  | with_reducible refine r_dget ?_
  | with_reducible refine r_dput ?_
  | ((with_reducible refine' r_aug ?hv ?_); (case hv => exact rfl))
  | with_reducible refine r_bl ?_)
local macro_rules | `(tactic| walk_at "go") => `(tactic| repeat walk_at "s1")

abbrev s_core_path : Stmt := topS 28
theorem sc_core_path : FnScope ["core", "goal", "rows", "found", "at", "present", "point", "after"] ["core", "goal"] (C8.fnScope s_core_path) := C8.fnScope_by (by decide +kernel)

section
variable {P : Program} {w : World} {K : PySem.W.Frag} {mg : Str → Option Value} {base : Heap} {CN CR : Addr}
theorem r_star {te : TE} {t : TA} {σ : L2.St} {H : Hp} {Q : List V → Hp → Prop} (h : te σ H fun x H1 => ∃ p xs, x = V.ref p ∧ (SqT K H1 p xs ∨ SqL K H1 p xs) ∧ t σ H1 fun ys H2 => Q (xs ++ ys) H2) : StX.tStar K te t σ H Q := h
theorem take_next {S T : Bfs} (h : S <+: T) {k : Nat} (hk : k < S.length) : T.take (k + 1) = S.take k ++ [hd S k] := by
  obtain ⟨U, rfl⟩ := h
  rw [List.take_append_of_le_length (by omega), List.take_add_one, hd_get hk]
  rfl
def sp_core_path (K : PySem.W.Frag) : Sp := fun vs H Q _ => ∃ (p q : V) (c d : Core) (n : Nat) (row : List Nat), vs = [p, q] ∧ IT H p c ∧ IT H q d ∧ Good n c ∧ n ≤ 5 ∧ (d, row) ∈ reach n c ∧ Res H Q fun v H' => IT H' v row
theorem c_core_path (B : Bi mg) (c_pressed_core : C8.Cal P w K mg base 1 "pressed_core" (sp_pressed_core K) []) (D : DB K mg "core_path" s_core_path ["core", "goal"]) : C8.Cal P w K mg base 2 "core_path" (sp_core_path K) [] := by
  obtain ⟨f, fd, F, b⟩ := D.ex
  have nd := sc_core_path.nd
  refine C8.cal0 F b .nil sc_core_path (fun vs H Q E h => by obtain ⟨p, q, c, d, n, row, rfl, _⟩ := h; rfl) fun cdv A outer s H vs Q E hr h => ?_
  obtain ⟨_, _, c, gl, n, row, rfl, ⟨p, rfl, hp⟩, ⟨gp, rfl, hgl⟩, hg, hn, hrow, k⟩ := h
  refine ⟨(tSeq (tAsg (tDisp1T (tVar 0) (tTup tNil)) (gName 2))
      (tSeq (tAsg (tLst (tCons (tVar 0) tNil)) (gName 3))
      (tSeq (tAsg (tC (.int 0)) (gName 4))
      (tSeq (tWhile (tTest (tOp rLtI (tVar 4) (tCB (rLenS K) (tCons (tVar 3) tNil)))) (tSeq (tAsg (tOp (rIxL K) (tVar 3) (tVar 4)) (gName 5))
        (tSeq (tIfS (tTest (tOp (rEqD K) (tVar 5) (tVar 1))) (tRet (tDGet (tVar 2) (tVar 5))) tNext)
        (tSeq (tFor (iRng1 (tCons (tCB (rLenS K) (tCons (tVar 0) tNil)) tNil)) (gName 6) (tSeq (tAsg (tCall (sp_pressed_core K) [] C8.E0 (tCons (tVar 5) (tCons (tVar 6) tNil))) (gName 7))
          (tIfS (tB (tDNotIn (tVar 7) (tVar 2))) (tSeq (sDPut (tVar 2) (tVar 7) (tTup (StX.tStar K (tDGet (tVar 2) (tVar 5)) (tCons (tVar 6) tNil))))
            (tDrop (tBM K "list" rAppend (tVar 3) (tCons (tVar 7) tNil)))) tNext)))
        (tAug 4 (tC (.int 1)) (ipI fun i j => i + j))))))
      (tRet (tC .non)))))),
      (pss_cons (ps_set (i := 2) nd rfl (by first | exact Or.inl rfl | exact Or.inr rfl) (pe_disp1T (hu_of hr) (pv 0) (pe_tup pa_nil)))
      (pss_cons (ps_set (i := 3) nd rfl (by first | exact Or.inl rfl | exact Or.inr rfl) (pe_lst (pa_cons (pv 0) pa_nil)))
      (pss_cons (ps_set (i := 4) nd rfl (by first | exact Or.inl rfl | exact Or.inr rfl) pe_int)
      (pss_cons (ps_while PassesOwn.never (pt_cmpR op_lt (pv 4) (pe_callB call_len_seq (by rfl) B.len PySem.boot_len (pa_cons (pv 3) pa_nil)) (nomark _)) (pss_cons (ps_set (i := 5) nd rfl (by first | exact Or.inl rfl | exact Or.inr rfl) (pe_ix ix_list (pv 3) (pv 4) (fun _ _ => rfl)))
        (pss_cons (ps_if (pt_cmpR (op_eqD hr.units) (pv 5) (pv 1) (nomark _)) (pss_one (ps_ret (pe_dget (hu_of hr) (pv 2) (pv 5) (fun _ _ => rfl)))) pss_nil)
        (pss_cons (ps_for PassesOwn.never rfl (pi_range1 (by rfl) B.range (pa_cons (pe_callB call_len_seq (by rfl) B.len PySem.boot_len (pa_cons (pv 0) pa_nil)) pa_nil)) (pg_name (i := 6) nd rfl (by first | exact Or.inl rfl | exact Or.inr rfl)) (pss_cons (ps_set (i := 7) nd rfl (by first | exact Or.inl rfl | exact Or.inr rfl) (C8.pe_c c_pressed_core hr (by decide) rfl (pa_cons (pv 5) (pa_cons (pv 6) pa_nil))))
          (pss_one (ps_if (pt_cmp (pc_dnotin (hu_of hr) (pv 7) (pv 2)) rfl) (pss_cons (ps_dput (hu_of hr) (pv 2) (pv 7) (pe_tup (StX.pa_star (pe_dget (hu_of hr) (pv 2) (pv 5) (fun _ _ => rfl)) (pa_cons (pv 6) pa_nil))) rfl)
            (pss_one (ps_expr (pe_bm PySem.F.plainAttrs_list PySem.F.slot_list_append PySem.F.type_list_append mt_append (pv 3) (pa_cons (pv 7) pa_nil))))) pss_nil))))
        (pss_one (ps_aug (i := 4) nd rfl (by first | exact Or.inl rfl | exact Or.inr rfl) pe_int ip_add))))))
      (pss_one (ps_ret pe_non)))))), ?_⟩
  change tSeq _ _ _ [some (V.ref p), some (V.ref gp), none, none, none, none, none, none] H
  refine r_seq ?_
  refine r_asg ?_
  refine r_disp1T fun d nd0 => ?_
  have s1 : Same H (upd H d (.dT [])) := Same.lay nd0
  have ed1 : upd H d (.dT []) d = some (.dT []) := upd_same
  walk_at "go"
  refine ⟨Nat.zero_le _, fun tp ntp => ?_⟩
  obtain ⟨s2, et⟩ := layT ntp []
  refine ⟨s2 _ _ ed1, p, ck c, rfl, (s1.trans s2 _ _ hp).trans (by rw [ck_v]), ?_⟩
  have hdt : tp ≠ d := by rintro rfl; rw [ed1] at ntp; cases ntp
  have s3 : Same H (upd (upd (upd H d (.dT [])) tp (.tup [])) d (.dT [(ck c, .ref tp)])) := (s1.trans s2).chg nd0
  have et3 : (upd (upd (upd H d (.dT [])) tp (.tup [])) d (.dT [(ck c, .ref tp)])) tp = some (.tup []) := by
    rw [upd_ne hdt]
    exact et
  have ed3 : (upd (upd (upd H d (.dT [])) tp (.tup [])) d (.dT [(ck c, .ref tp)])) d = some (.dT (dC [c] [.ref tp])) := upd_same
  generalize upd (upd (upd H d (.dT [])) tp (.tup [])) d (.dT [(ck c, .ref tp)]) = H3 at *
  walk_at "go"
  refine ⟨by show 1 ≤ sizeLine; decide, fun l nl => ?_⟩
  obtain ⟨s4, el⟩ := layL nl [V.ref p]
  have nlH : H l = none := by
    cases hh : H l with
    | none => rfl
    | some o => rw [s3 _ _ hh] at nl; cases nl
  have hld : l ≠ d := by rintro rfl; rw [ed3] at nl; cases nl
  walk_at "go"
  refine r_while 1025 (fun k σ' H' => ∃ v5 v6 v7 fs vs, σ' = [some (V.ref p), some (V.ref gp), some (V.ref d), some (V.ref l), some (nV k), v5, v6, v7] ∧ k ≤ (stage n c k).length ∧ Same H H' ∧ H' l = some (.lst fs) ∧ Paired (IT H') fs ((stage n c k).map (·.1)) ∧ H' d = some (.dT (dC ((stage n c k).map (·.1)) vs)) ∧ Paired (IT H') vs ((stage n c k).map (·.2)) ∧
    (∀ p ∈ (stage n c k).take k, p.1 ≠ gl)) ?_ ?_
  · exact ⟨_, _, _, [V.ref p], [V.ref tp], rfl, Nat.zero_le _, s3.trans s4, el, .cons ⟨p, rfl, (s3.trans s4) _ _ hp⟩ .nil, s4 _ _ ed3, .cons ⟨tp, rfl, s4 _ _ et3⟩ .nil, fun i hi => by simp at hi⟩
  rintro k' σ' H1 ⟨v5, v6, v7, fs, vs, rfl, hk0, s5, el5, pf, ed5, pv, hno⟩
  have hok := stage_ok hg k'
  have hfew := hok.few hn
  have hfl := Paired.length pf
  rw [List.length_map] at hfl
  walk_at "go"
  refine r_lenL el5 ?_
  walk_at "go"
  refine ite2 (fun hb => ?_) (fun hb => ?_)
  · have hk : k' < (stage n c k').length := by
      have := of_decide_eq_true hb
      omega
    refine wh_go (by omega) ?_
    have hat := pre_at (List.prefix_refl (stage n c k')) hk
    have hat2 : ((stage n c k').map (·.2))[k']? = some (hd (stage n c k') k').2 := by rw [List.getElem?_map, hd_get hk]; rfl
    obtain ⟨x, hx, a, rfl, ha⟩ := K81.Paired.get pf hat
    obtain ⟨y, hy, r, rfl, hr⟩ := K81.Paired.get pv hat2
    walk_at "go"
    refine r_ixL el5 hx ?_
    walk_at "go"
    refine r_eqI ha (s5 _ _ hgl) ?_
    walk_at "go"
    by_cases hgo : (hd (stage n c k') k').1 = gl
    · rw [decide_eq_true hgo]
      refine iteT ?_
      walk_at "go"
      refine ⟨d, _, rfl, g_yes ed5 ha hok.nd hat hy, ?_⟩
      have e : row = (hd (stage n c k') k').2 := by
        have hm : hd (stage n c k') k' ∈ reach n c := (reach_pre (by omega)).subset (hd_mem hk)
        exact key_one (reach_ok hg).nd hrow (by rw [← hgo]; exact hm)
      exact k _ _ s5 ⟨r, rfl, by rw [e]; exact hr⟩
    rw [decide_eq_false hgo]
    refine iteF ?_
    walk_at "go"
    refine r_lenT (s5 _ _ hp) ?_
    rw [List.length_map, hg.1]
    have hhg := hok.good _ (hd_mem hk)
    refine w_r1 (fun j σ' H' => ∃ v6 v7 fs vs, σ' = [some (V.ref p), some (V.ref gp), some (V.ref d), some (V.ref l), some (nV k'), some (V.ref a), v6, v7] ∧ TSame H1 H' ∧ Same H H' ∧ H' l = some (.lst fs) ∧ Paired (IT H') fs ((inner (stage n c k') (hd (stage n c k') k').1 (hd (stage n c k') k').2 j).map (·.1)) ∧ H' d = some (.dT (dC ((inner (stage n c k') (hd (stage n c k') k').1 (hd (stage n c k') k').2 j).map (·.1)) vs)) ∧
      Paired (IT H') vs ((inner (stage n c k') (hd (stage n c k') k').1 (hd (stage n c k') k').2 j).map (·.2))) (by omega) ?_ ?_ ?_
    · exact ⟨_, _, fs, vs, rfl, TSame.refl _, s5, el5, pf, ed5, pv⟩
    · rintro j σ' H2 hj ⟨v6, v7, fs, vs, rfl, t1, s6, el6, pf, ed6, pv⟩
      have hT := inner_ok hn hg hk (Nat.le_of_lt hj)
      have hTf := hT.few hn
      have hpre := inner_pre (stage n c k') (hd (stage n c k') k').1 (hd (stage n c k') k').2 j
      have hat := pre_at hpre hk
      have hat2 : ((inner (stage n c k') (hd (stage n c k') k').1 (hd (stage n c k') k').2 j).map (·.2))[k']? = some (hd (stage n c k') k').2 := by
        obtain ⟨U, hU⟩ := hpre
        rw [← hU, List.getElem?_map, List.getElem?_append_left hk, hd_get hk]
        rfl
      have hget : (inner (stage n c k') (hd (stage n c k') k').1 (hd (stage n c k') k').2 j)[k']? = some (hd (stage n c k') k') := by
        obtain ⟨U, hU⟩ := hpre
        rw [← hU, List.getElem?_append_left hk, hd_get hk]
      rw [inner_succ]
      generalize hTe : inner (stage n c k') (hd (stage n c k') k').1 (hd (stage n c k') k').2 j = T at *
      generalize hc1 : hd (stage n c k') k' = h1 at *
      have hfl := Paired.length pf
      have hvl := Paired.length pv
      rw [List.length_map] at hfl hvl
      walk_at "go"
      refine ⟨_, h1.1, j, rfl, ⟨a, rfl, t1 _ _ ha⟩, by rw [hhg.1]; exact hj, by rw [hhg.1]; omega, fun v H3 s7 hv => ?_⟩
      obtain ⟨q, rfl, hq⟩ := hv
      walk_at "go"
      by_cases hin : press h1.1 j ∈ T.map (·.1)
      · obtain ⟨i, u, e1, e2, e3⟩ := dC_yes (vs := vs) hT.nd (by rw [List.length_map]; exact hvl) hin
        refine ⟨d, _, rfl, g_yes (s7 _ _ ed6) hq hT.nd e1 e2, ?_⟩
        walk_at "go"
        refine iteF ?_
        refine ⟨_, _, fs, vs, rfl, t1.trans s7.tup, s6.trans s7, s7 _ _ el6, ?_⟩
        rw [visit, if_pos hin]
        exact ⟨it_t s7.tup pf, s7 _ _ ed6, it_t s7.tup pv⟩
      · refine ⟨d, _, rfl, g_no (s7 _ _ ed6) hq hin, ?_⟩
        walk_at "go"
        refine iteT ?_
        obtain ⟨y, hy, r, rfl, hr⟩ := K81.Paired.get pv hat2
        walk_at "go"
        refine r_star ?_
        walk_at "go"
        refine ⟨d, _, rfl, g_yes (s7 _ _ ed6) (s7 _ _ (t1 _ _ ha)) hT.nd hat hy, r, _, rfl, .inl (SqT.of (s7 _ _ hr)), ?_⟩
        walk_at "go"
        have hrl := hT.len _ (List.mem_of_getElem? hget)
        refine ⟨Nat.le_trans (m := 2000) (by rw [List.length_append, List.length_map, List.length_singleton]; omega) (by decide), fun z nz => ?_⟩
        obtain ⟨s8, ez⟩ := layT nz (h1.2.map nV ++ [nV j])
        walk_at "go"
        refine ⟨d, _, rfl, g_put (v := V.ref z) (s8 _ _ (s7 _ _ ed6)) (s8 _ _ hq) hin (by rw [List.length_map]; exact hvl) (by rw [List.length_map]; omega), ?_⟩
        have el7 : (upd (upd H3 z (.tup (h1.2.map nV ++ [nV j]))) d (.dT (dC (T.map (·.1) ++ [press h1.1 j]) (vs ++ [V.ref z])))) l = some (.lst fs) := by
          rw [upd_ne hld]
          exact s8 _ _ (s7 _ _ el6)
        have t7 : TSame (upd H3 z (.tup (h1.2.map nV ++ [nV j]))) (upd (upd H3 z (.tup (h1.2.map nV ++ [nV j]))) d (.dT (dC (T.map (·.1) ++ [press h1.1 j]) (vs ++ [V.ref z])))) := TSame.dT (s8 _ _ (s7 _ _ ed6))
        walk_at "go"
        refine r_tyL el7 ?_
        walk_at "go"
        refine r_append el7 (by omega) ?_
        have t8 := TSame.lst (o := .lst (fs ++ [V.ref q])) el7
        have t9 := s7.tup.trans (s8.tup.trans (t7.trans t8))
        refine ⟨_, _, _, vs ++ [V.ref z], rfl, t1.trans t9, (((s6.trans s7).trans s8).chg nd0).chg nlH, upd_same, ?_⟩
        rw [visit, if_neg hin, List.map_append, List.map_append]
        refine ⟨Paired.snoc (it_t t9 pf) ⟨q, rfl, t8 _ _ (t7 _ _ (s8 _ _ hq))⟩, ?_, Paired.snoc (it_t t9 pv) ⟨z, rfl, t8 _ _ (t7 _ _ (ez.trans (by rw [List.map_append]; rfl)))⟩⟩
        rw [upd_ne hld.symm, upd_same]
        rfl
    · rintro σ' H2 ⟨v6, v7, fs, vs, rfl, t1, s6, el6, pf, ed6, pv⟩
      walk_at "go"
      refine ⟨_, _, rfl, rfl, ?_⟩
      rw [← stage_go hk] at pf ed6 pv
      refine ⟨_, _, _, fs, vs, rfl, stage_len_le hk0 hk, s6, el6, pf, ed6, pv, fun q hq => ?_⟩
      rw [take_next (stage_step n c k') hk] at hq
      rcases List.mem_append.mp hq with hq | hq
      · exact hno q hq
      · rw [List.mem_singleton] at hq
        rw [hq]
        exact hgo
  · exfalso
    have hk : (stage n c k').length ≤ k' := by
      have := of_decide_eq_false (Bool.eq_false_iff.mpr hb)
      omega
    rw [← reach_end hn hg (by omega) hk] at hrow
    rw [List.take_of_length_le hk] at hno
    exact hno _ hrow rfl
end
end K81
end

section
namespace L2
open PySem PySem.Spec PyProof.Rows
section
variable {X : Cx}
theorem dcT_core {pins : List (Addr × Obj)} {s : Shared} {σ : L2.St} {H : Hp} {Q : VK} {pos' : Pos} {use : Option (Value → Sem Unit)} {Qf : Value → Shared → Prop} {kx vx tg iter : Expr} {ifs : List Expr} {scope : Scope} {own : List (Str × Nat)} {pos : Pos} {wi : TI} {g : TG} {tt : TT} {tk tv : TE} (hu : X.A.units + 1 < cLine) (hc : X.calm = true) (hN : X.N.Nodup) (hi : PI X tg iter wi) (ok : BlkOk X.N X.env.scope scope own)
    (hg : ∀ (s : Shared) (H : Hp) (C : Addr) (cl : List (Str × Addr)) (fp : List Addr), PG (X.blk s H scope (compEnvC scope cl C X.env) fp) tg g)
    (ht : ∀ (s : Shared) (H : Hp) (C : Addr) (cl : List (Str × Addr)) (fp : List Addr), PTs (X.blk s H scope (compEnvC scope cl C X.env) fp) ifs tt)
    (hk : ∀ (s : Shared) (H : Hp) (C : Addr) (cl : List (Str × Addr)) (fp : List Addr), PE (X.blk s H scope (compEnvC scope cl C X.env) fp) kx tk)
    (he : ∀ (s : Shared) (H : Hp) (C : Addr) (cl : List (Str × Addr)) (fp : List Addr), PE (X.blk s H scope (compEnvC scope cl C X.env) fp) vx tv)
    (hs : ∀ x, foldedSetIterable iter X.env x = pure x) (I : Inv X pins σ H s) (h : tDcT wi g tt tk tv (own.map (·.2)) σ H Q)
    (hRR : ∀ D C s' m H', Inv X pins σ H' s' → Q (.ref D) H' → s'.heap.Ns C m → FpOk X pins H' C → compPost (model X.prog X.w) X.A X.xe use Qf (.ref D) C (.ok .next) s') :
    wpAny (model X.prog X.w) X.A (comprehension (.DictComp kx vx [⟨tg, iter, ifs, 0⟩] scope pos) scope X.env pos' newDict false (eval iter X.env) use) Qf X.xe s := by
  have hfree : ∀ y ∈ scope.names, y.2 = .free → ∃ c, X.env.cells.lookup y.1 = some c := by
    intro y hy e
    rcases ok.free y hy e with k | k
    · exact I.ok.has _ (.inl k)
    · exact I.ok.has _ (.inr k)
  refine wpAny_comprehension_free (use := use) rfl hs (closure_ok hfree) ok.kind (fun y hy e => by rw [ok.uniq y hy, e]) ?_
  refine thn (hi.run pins s σ H _ I h) fun xv s1 hx => thn hx fun itv s2 h2 => ?_
  obtain ⟨it, fp, tn, J, H2, e, I2, T, st2, f2, q⟩ := h2
  subst e
  refine wpAny_newObj_type (newEnv_comp ?_)
  generalize hD : s2.heap.objs.size = D
  have hDn : H2 D = none := I2.hok.fresh (Nat.le_of_eq hD)
  obtain ⟨W, ⟨m0, w0⟩, turn⟩ := q D hDn
  -- the dict, empty
  generalize hs3 : ({ s2 with heap := s2.heap.push { cls := .type "dict", data := .dict #[] } } : Shared) = s3
  have h3 : s3.heap = s2.heap.push { cls := .type "dict", data := .dict #[] } := by rw [← hs3]
  have I3 : Inv X pins σ (upd H2 D (.dT [])) s3 := by
    subst hs3
    refine I2.laid (t' := s2.toks) (fun b o e => Heap.get?_push_of_some _ e) (Nat.le_of_eq hD) ?_
    subst hD
    exact dt_empty s2.heap I2.big
  have sz : ∀ b ∈ fp, b < s2.heap.objs.size := by
    intro b hb
    obtain ⟨o, e, _⟩ := T.obj _ _ st2 b hb
    exact Heap.lt_size e
  have f3 : ∀ b ∈ fp, FpOk X pins (upd H2 D (.dT [])) b ∧ b < s3.heap.objs.size := by
    intro b hb
    have hlt := sz b hb
    have hbD : b ≠ D := by rw [← hD]; exact Nat.ne_of_lt hlt
    refine ⟨⟨?_, (f2 b hb).2⟩, ?_⟩
    · rw [upd_ne hbD]
      exact (f2 b hb).1
    · rw [h3, Heap.size_push]
      exact Nat.lt_succ_of_lt hlt
  have st3 : tn 0 s3.heap := by
    refine T.keep _ _ _ st2 fun b _ o e => ?_
    rw [h3]
    exact Heap.get?_push_of_some _ e
  have I4 := block_start I3 ok hN f3
  generalize hcl : cellsFrom (s3.heap.objs.size + 1) scope.names (cloFrom X.env.cells scope.names []) = cl at I4
  have pg := hg s3 (upd H2 D (.dT [])) s3.heap.objs.size cl fp
  have pt := ht s3 (upd H2 D (.dT [])) s3.heap.objs.size cl fp
  have pk := hk s3 (upd H2 D (.dT [])) s3.heap.objs.size cl fp
  have pe := he s3 (upd H2 D (.dT [])) s3.heap.objs.size cl fp
  have goal : codeAny (model X.prog X.w) X.A (.compStart (.DictComp kx vx [⟨tg, iter, ifs, 0⟩] scope pos) 0 (.ref it) (.ref D) (compEnvC scope cl s3.heap.objs.size X.env)) (compPost (model X.prog X.w) X.A X.xe use Qf (.ref D) s3.heap.objs.size)
      { s3 with heap := pushCells (s3.heap.push { cls := .type "dict", data := .dict #[] }) scope.names } := by
    have nfp : ∀ b ∈ fp, (upd H2 D (.dT [])) b = none := fun b hb => (f3 b hb).1.1
    generalize hce : compEnvC scope cl s3.heap.objs.size X.env = ce at I4 pg pt pk pe ⊢
    have cL : ce.locals = s3.heap.objs.size := by subst hce; rfl
    generalize hH3 : upd H2 D (.dT []) = H3 at I3 I4 pg pt pk pe w0 nfp f3
    generalize hs4 : ({ s3 with heap := pushCells (s3.heap.push { cls := .type "dict", data := .dict #[] }) scope.names } : Shared) = s4 at I4 ⊢
    have st4 : tn 0 s4.heap := by
      refine T.keep _ _ _ st3 fun b _ o e => ?_
      rw [← hs4]
      exact pushCells_keeps _ _ _ _ (Heap.get?_push_of_some _ e)
    have stat : ∀ {σ' : St} {H' : Hp} {s' : Shared}, Inv (X.blk s3 H3 scope ce fp) [] σ' H' s' → (∀ b ∈ fp, H' b = none) → ∀ b ∈ fp, FpOk (X.blk s3 H3 scope ce fp) [] H' b := by
      intro σ' H' s' I' hn b hb
      exact ⟨hn b hb, (I'.ok.exf b hb).1, I'.ok.exfs b hb, .inl hb, fun x c e => (I'.ok.exf b hb).2 x c e, fun p hp => absurd (show p ∈ ([] : List (Addr × Obj)) ++ [] from hp) (by simp)⟩
    refine codeAny_compStart_dict ?loop ?self
    case self =>
      refine T.self X.A 0 _ _ _ st4 ?loop2
      exact ?loop
    case loop =>
      refine compLoop_anyD (fun n s' => ∃ i H', Inv (X.blk s3 H3 scope ce fp) [] (wipe σ (own.map (·.2))) H' s' ∧ tn i s'.heap ∧ (∀ b ∈ fp, H' b = none) ∧ W i n H') ?_ m0 ⟨0, H3, I4, st4, nfp, w0⟩
      rintro n s5 ⟨i, H5, I5, st5, n5, w5⟩
      rcases turn i n H5 w5 with ⟨stop, qq⟩ | ⟨go, Nx, hNx, step⟩
      · refine thnF (T.done (X.blk s3 H3 scope ce fp) rfl rfl rfl hc i [] s5 _ H5 (fun _ _ => False) I5 (stat I5 n5) st5 stop) fun r s6 ⟨hr, I6⟩ => ?_
        subst hr
        have I7 : Inv X pins σ H5 s6 := I3.call' (ch := fp) I6.os I6.base I6.hok I6.bare fun b hb => ⟨(f3 b hb).1.2.2.2.1, (f3 b hb).1.2.1, (f3 b hb).1.2.2.2.2.1, (f3 b hb).1.2.2.2.2.2⟩
        have nC : H5 s3.heap.objs.size = none := by
          have z : H5 ce.locals = none := I6.free
          rwa [cL] at z
        obtain ⟨m, hn, _⟩ := I6.loc
        have hn : s6.heap.Ns ce.locals m := hn
        rw [cL] at hn
        exact hRR D _ s6 m H5 I7 qq hn (I3.fpOk (Nat.le_refl _) nC)
      · refine thnF (T.item (X.blk s3 H3 scope ce fp) rfl rfl rfl hc i [] s5 _ H5 (fun _ _ => False) I5 (stat I5 n5) st5 go) fun r s6 ⟨u, hr, h6⟩ => ?_
        subst hr
        refine thnF h6 fun _ s7 ⟨x, H7, I7, r7, y7, st7, n7⟩ => ?_
        have I7' := I7.pinned (stat I7 n7) (T.obj _ _ st7)
        refine thnF (pg.run _ s7 _ H7 x u _ I7' r7 (step x H7 y7)) fun _ s8 ⟨σ8, H8, I8, hw8, q8⟩ => ?_
        refine thnF (pt.run _ s8 σ8 H8 _ I8 q8) fun b s9 ⟨H9, I9, q9⟩ => ?_
        have fin : ∀ {s' : Shared} {H' : Hp}, Inv (X.blk s3 H3 scope ce fp) ([] ++ pinsAt fp s7.heap) σ8 H' s' → Nx H' → ∃ m, m < n ∧ ∃ i H', Inv (X.blk s3 H3 scope ce fp) [] (wipe σ (own.map (·.2))) H' s' ∧ tn i s'.heap ∧ (∀ b ∈ fp, H' b = none) ∧ W i m H' := by
          intro s' H' I' nx
          obtain ⟨m', hm, w'⟩ := hNx H' nx
          have pin' : ∀ b ∈ fp, ∀ o, s7.heap.get? b = some o → s'.heap.get? b = some o ∧ H' b = none := by
            intro b hb o e
            have z := I'.pin (b, o) (List.mem_append_right _ (List.mem_append_right _ (mem_pinsAt hb e)))
            exact ⟨z.1, z.2.1⟩
          have hl : (wipe σ (own.map (·.2))).length = σ8.length := by rw [← hw8, wipe_length]
          refine ⟨m', hm, i + 1, H', (I'.unpinned (pins := [])).weak hl ?_, ?_, ?_, w'⟩
          · intro j v e
            rw [← hw8] at e
            exact (wipe_some e).1
          · exact T.keep _ _ _ st7 fun b hb o e => (pin' b hb o e).1
          · intro b hb
            obtain ⟨o, e, _⟩ := T.obj _ _ st7 b hb
            exact (pin' b hb o e).2
        cases b with
        | false =>
          simp only [Bool.false_eq_true, if_false] at q9 ⊢
          exact fin I9 q9
        | true =>
          simp only [if_true] at q9 ⊢
          refine thnF (pk.run _ s9 σ8 H9 _ I9 q9) fun z s10 ⟨yk, H10, I10, r10, q10⟩ => ?_
          refine thnF (pe.run _ s10 σ8 H10 _ I10 q10) fun z2 s11 ⟨yv, H11, I11, r11, kvs, k, b, ek, eb, hD11, hz11, nx⟩ => ?_
          subst ek
          have hKey : H11 b = some (.tup (k.map kV)) := eb
          refine dT_dictSet (X := X.blk s3 H3 scope ce fp) hu I11 hD11 hz11 hKey ?_ r11 fun s12 I12 => fin I12 nx
          exact r10
  subst hcl
  exact goal
theorem sw_trueD {kx vx : Expr} {gs : List Comprehension} {scope : Scope} {pos py : Pos} {y : Str} {l : Nat} {env : Env} (hk : env.scope.kind = .function) (hy : env.scope.names.lookup y = some .local) (hl : (py.line == pos.line) = true)
    (ha : (scope.names.any fun (n, k) => n == y && (k == .local || k == .cell)) = false) : swapsWith (.DictComp kx vx gs scope pos) (some (.Name y py)) l env = pure true := by
  have ky : env.kindOf y = some .local := hy
  have hb : env.blockKind = .function := by unfold Env.blockKind; rw [hk]; rfl
  unfold swapsWith
  simp only [hb, ky, ha, Expr.pos, hl]
  rfl
theorem ps_setDcT {i : Nat} {y : Str} {py spos : Pos} {kx vx tg iter : Expr} {ifs : List Expr} {scope : Scope} {own : List (Str × Nat)} {pos : Pos} {wi : TI} {g : TG} {tt : TT} {tk tv : TE} (hu : X.A.units + 1 < cLine) (hc : X.calm = true) (hN : X.N.Nodup) (hy : X.N[i]? = some y) (hyl : X.env.scope.names.lookup y = some .local)
    (hsw : swapsWith (.DictComp kx vx [⟨tg, iter, ifs, 0⟩] scope pos) (some (.Name y py)) spos.line X.env = pure true) (hi : PI X tg iter wi) (ok : BlkOk X.N X.env.scope scope own)
    (hg : ∀ (s : Shared) (H : Hp) (C : Addr) (cl : List (Str × Addr)) (fp : List Addr), PG (X.blk s H scope (compEnvC scope cl C X.env) fp) tg g)
    (ht : ∀ (s : Shared) (H : Hp) (C : Addr) (cl : List (Str × Addr)) (fp : List Addr), PTs (X.blk s H scope (compEnvC scope cl C X.env) fp) ifs tt)
    (hk : ∀ (s : Shared) (H : Hp) (C : Addr) (cl : List (Str × Addr)) (fp : List Addr), PE (X.blk s H scope (compEnvC scope cl C X.env) fp) kx tk)
    (he : ∀ (s : Shared) (H : Hp) (C : Addr) (cl : List (Str × Addr)) (fp : List Addr), PE (X.blk s H scope (compEnvC scope cl C X.env) fp) vx tv)
    (hs : ∀ x, foldedSetIterable iter X.env x = pure x := by intro _; rfl) :
    PS X (.Assign [.Name y py] (.DictComp kx vx [⟨tg, iter, ifs, 0⟩] scope pos) spos) (tAsg (tDcT wi g tt tk tv (own.map (·.2))) (gName i)) := by
  refine ⟨fun pins s σ H D I h => ?_⟩
  rw [exec_Assign_Name_used _ _ _ _ hsw]
  refine wpAny_bind (wpAny_standAt (wpAny_bind ?_))
  show wpAny _ X.A (do let _ ← comprehension (.DictComp kx vx [⟨tg, iter, ifs, 0⟩] scope pos) scope X.env (firstIterPos [⟨tg, iter, ifs, 0⟩] pos) newDict false (eval iter X.env) (some (assign (.Name y py) X.env))) _ _ s
  have h : tDcT wi g tt tk tv (own.map (·.2)) σ H (fun x H1 => gName i x σ H1 D.nx) := h
  refine wpAny_bind (thn (dcT_core (Qf := fun _ s' => SP X pins D .next s') hu hc hN hi ok hg ht hk he hs I h fun L C s' m H' I' q hn f => ?_) fun _ s' hq => wpAny_pure (wpAny_pure hq))
  show wpAny _ _ (assign (.Name y py) X.env (.ref L)) _ _ _
  refine wpAny_assign_Name (store_ok2 (v := V.ref L) I' hN hy (.inl hyl) rfl (fun s2 I2 ⟨a, sb, ha⟩ => ?_) (.inr hyl))
  obtain ⟨f0, f1, f2, f3, f4, f5⟩ := f
  have haC : C ≠ a := by
    rcases ha with z | z
    · rw [z]; exact f1
    · exact fun e => f4 y a z e.symm
  refine ⟨m, hn.sameBut sb haC, fun h3 sb3 => ?_⟩
  exact ⟨_, H', I2.turned (t' := s2.toks) (fun b o hb e => (sb3.2 b hb).trans e) f0 f1 f3 f4 f5, q⟩
end
end L2
end

section
open PySem PySem.Spec PyProof.Rows L2

namespace K81
local macro_rules | `(tactic| walk_at "s1") => `(tactic| first
  | with_reducible refine r_seq ?_
  | with_reducible refine r_asg ?_
  | with_reducible refine r_ret ?_
  | with_reducible refine r_if ?_
  | with_reducible refine r_app ?_
  | with_reducible refine r_drop ?_
  | with_reducible refine r_asgS ?_
  | with_reducible refine r_op ?_
  | with_reducible refine r_c ?_
  | ((with_reducible refine' r_var ?hv ?_); (case hv => exact rfl))
  | with_reducible refine r_cb ?_
  | with_reducible refine r_cons ?_
  | with_reducible refine r_nil ?_
  | with_reducible refine r_test ?_
  | with_reducible refine r_tB ?_
  | with_reducible refine r_not ?_
  | with_reducible refine r_and ?_
  | with_reducible refine r_or ?_
  | with_reducible refine r_call ?_
  | with_reducible refine r_tup ?_
  | with_reducible refine r_for1 ?_
  | with_reducible refine r_for2 ?_
  | with_reducible refine r_forT ?_
  | with_reducible refine r_forL ?_
  | with_reducible refine r_lc1 ?_
  | with_reducible refine r_lcT ?_
  | with_reducible refine r_lcL ?_
  | with_reducible refine r_lcE ?_
  | with_reducible refine r_lst ?_
  | with_reducible refine r_yes ?_
  | with_reducible refine r_next ?_
  | with_reducible refine r_nat ?_
  | with_reducible refine r_nat1 ?_
  | with_reducible refine r_i0 ?_
  | with_reducible refine r_int1 ?_
  | ((with_reducible refine' r_eq ?hs ?_); (case hs => exact rfl))
  | ((with_reducible refine' r_ne ?hs ?_); (case hs => exact rfl))
  | with_reducible refine r_bitT ?_
  | with_reducible refine r_tfld ?_
  | with_reducible refine r_tsfld ?_
  | with_reducible refine r_make ?_
  | with_reducible refine r_gN ?_
  | with_reducible refine r_din ?_
  | with_reducible refine r_dnin ?_
  | with_reducible refine r_dget ?_
  | with_reducible refine r_dput ?_
  | ((with_reducible refine' r_aug ?hv ?_); (case hv => exact rfl))
  | with_reducible refine r_bl ?_)
local macro_rules | `(tactic| walk_at "go") => `(tactic| repeat walk_at "s1")

abbrev s_press_path : Stmt := topS 29
theorem sc_press_path : FnScope ["one", "two", "path", "at"] ["one", "two"] (C8.fnScope s_press_path) := C8.fnScope_by (by decide +kernel)
abbrev s_ren_init : Stmt := inClass (topS 31) 0
theorem sc_ren_init : FnScope ["self", "pairs", "presses"] ["self", "pairs", "presses"] (C8.fnScope s_ren_init) := C8.fnScope_by (by decide +kernel)
abbrev s_renaming_to : Stmt := topS 34
theorem sc_renaming_to : FnScope ["one", "two", "known", "order", "core", "pairs", "k", "old"] ["one", "two"] (C8.fnScope s_renaming_to) := C8.fnScope_by (by decide +kernel)

section
variable {X : Cx} {k j : Nat} {C : Addr} {sp : Sp}
theorem len_net (c : C8.Met X.prog X.w X.K X.mg X.base k C "__len__" sp []) (hr : Room j X.A) (hk : k + 1 ≤ j) : CallR X (.builtin "len") (rLenO C sp) := by
  obtain ⟨f, fd, ps, ds, hc, hm, F, b, d⟩ := c.ex
  cases d
  exact call_lenO hm.at_ hm.fn F b (hr.mono hk) C8.pass0
end
theorem not_mem_takeC {α : Type} {ss : List α} {i : Nat} {s : α} (nd : ss.Nodup) (h : ss[i]? = some s) : s ∉ ss.take i := not_mem_take nd h
/-- {core: v for core in cores} -/
def DcW (J : It) (g : TG) (tt : TT) (tk tv : TE) (vs : List Nat) (σ : L2.St) (H1 : Hp) (Q : VK) : Prop := ∀ D, H1 D = none → ∃ W : Nat → Nat → Hp → Prop, (∃ m, W 0 m (upd H1 D (.dT []))) ∧ ∀ i m H, W i m H →
  (J.stop i H ∧ Q (.ref D) H) ∨ (J.go i H ∧ ∃ Nx : Hp → Prop, (∀ H', Nx H' → ∃ m', m' < m ∧ W (i + 1) m' H') ∧ ∀ x H', J.yld i H x H' → g x (wipe σ vs) H' fun σ2 H2 => wipe σ2 vs = wipe σ vs ∧ tt σ2 H2 fun b H3 =>
    if b = true then tk σ2 H3 fun y H4 => tv σ2 H4 fun z H5 => ∃ kvs k b, y = .ref b ∧ H5 b = some (.tup (k.map kV)) ∧ H5 D = some (.dT kvs) ∧ kvs.length < sizeLine ∧ Nx (upd H5 D (.dT (putK kvs k z))) else Nx H3)
theorem r_dcT {K : PySem.W.Frag} {tl : TE} {σ : L2.St} {H : Hp} {Q : VK} {g : TG} {tt : TT} {tk tv : TE} {vs : List Nat} (h : tl σ H fun x H1 => ∃ a, x = .ref a ∧ (∃ xs, SqT K H1 a xs) ∧ DcW (Itt K a) g tt tk tv vs σ H1 Q) : tDcT (iTup K tl) g tt tk tv vs σ H Q := h
theorem d_t {K : PySem.W.Frag} {σ : L2.St} {H : Hp} {Q : VK} {j : Nat} {y : V} {a : Addr} {xs : List V} {cs : List Core} (hw2 : ∀ x, wipe ((wipe σ [j]).set j (some x)) [j] = wipe σ [j]) (hj : ∀ x, ((wipe σ [j]).set j (some x))[j]? = some (some x))
    (ha : H a = some (.tup xs)) (px : Paired (IT H) xs cs) (nd : cs.Nodup) (few : cs.length ≤ 50000) (hd : ∀ D H' vs, H D = none → Same H H' → H' D = some (.dT (dC cs vs)) → vs.length = cs.length → Q (.ref D) H') :
    ∃ a', V.ref a = .ref a' ∧ (∃ xs, SqT K H a' xs) ∧ DcW (Itt K a') (gName j) tYes (tVar j) (tC y) [j] σ H Q := by
  refine ⟨a, rfl, ⟨xs, SqT.of ha⟩, fun D hD => ?_⟩
  have hl := Paired.length px
  have w := walk_tup (K := K) (a := a) (xs := xs)
  refine ⟨fun i m H' => m = cs.length - i ∧ i ≤ cs.length ∧ Same H H' ∧ ∃ vs, H' D = some (.dT (dC (cs.take i) vs)) ∧ vs.length = i, ⟨cs.length, by simp, Nat.zero_le _, Same.lay hD, [], upd_same, rfl⟩, ?_⟩
  rintro i m H1 ⟨rfl, hi, s, vs, ed, hv⟩
  by_cases hlt : i < cs.length
  · refine .inr ⟨w.goes i H1 (by omega) (SqT.of (s _ _ ha)), fun H' => i + 1 ≤ cs.length ∧ Same H H' ∧ ∃ vs, H' D = some (.dT (dC (cs.take (i + 1)) vs)) ∧ vs.length = i + 1, fun H' p => ⟨cs.length - (i + 1), by omega, rfl, p⟩, fun x H' yy => ?_⟩
    obtain ⟨rfl, hx⟩ := w.yields i H1 x H' (by omega) (SqT.of (s _ _ ha)) yy
    obtain ⟨x', hx', b, rfl, hb⟩ := K81.Paired.get px (List.getElem?_eq_getElem hlt)
    rw [hx] at hx'
    cases hx'
    have hno : cs[i] ∉ cs.take i := not_mem_takeC nd (List.getElem?_eq_getElem hlt)
    have htl : (cs.take i).length = i := by rw [List.length_take]; omega
    refine ⟨hw2 _, ?_⟩
    refine r_yes ?_
    refine iteT ?_
    refine r_var (hj _) ?_
    refine r_c ?_
    refine ⟨_, ck cs[i], b, rfl, (s _ _ hb).trans (by rw [ck_v]), ed, ?_, hlt, s.chg hD, vs ++ [y], ?_, by simp [hv]⟩
    · rw [dC_len (by rw [htl, hv]), htl]
      exact Nat.lt_of_lt_of_le hlt (Nat.le_trans few (by decide))
    · rw [upd_same, dC_put hno (by rw [htl, hv]), List.take_add_one, List.getElem?_eq_getElem hlt]
      rfl
  · have e : i = cs.length := by omega
    subst e
    refine .inl ⟨?_, ?_⟩
    · rw [← hl]
      exact w.stops H1 (SqT.of (s _ _ ha))
    · rw [List.take_of_length_le (Nat.le_refl _)] at ed
      exact hd D H1 vs hD s ed hv
section
variable {P : Program} {w : World} {K : PySem.W.Frag} {mg : Str → Option Value} {base : Heap} {CN CR : Addr}
def RenAt (CR : Addr) (H : Hp) (x : Addr) (ps : List (Str × Str)) (qs : List Str) : Prop := ∃ dx pp pr ts, H x = some (.ins CR dx [("pairs", .ref pp), ("presses", .ref pr)]) ∧ H pp = some (.tup ts) ∧ Paired (PS2 H) ts ps ∧ H pr = some (.tup (qs.map V.str))
def sp_ren_init (K : PySem.W.Frag) (CR : Addr) : Sp := fun vs H Q _ => ∃ (x dx : Addr) (a b : V), vs = [.ref x, a, b] ∧ H x = some (.ins CR dx []) ∧ Q .non (upd (upd H x (.ins CR dx [("pairs", a)])) x (.ins CR dx [("pairs", a), ("presses", b)]))
theorem c_ren_init (CL : ClsR K CR) (D : DI K mg "Renaming" CR "Renaming.__init__" s_ren_init ["self", "pairs", "presses"]) : C8.Mak P w K mg base 1 "Renaming" CR (sp_ren_init K CR) [] := by
  obtain ⟨f, fd, M, hm, F, b⟩ := D.ex
  have nd := sc_ren_init.nd
  refine C8.mak0 M hm F b .nil sc_ren_init (fun vs H Q E h => by obtain ⟨x, dx, a, b, rfl, _⟩ := h; rfl) fun cdv A outer s H vs Q E hr h => ?_
  obtain ⟨x, dx, a, b, rfl, hx, k⟩ := h
  refine ⟨(tSeq (sFld K (tVar 0) (tVar 1) "pairs")
      (sFld K (tVar 0) (tVar 2) "presses")),
      (pss_cons (ps_fld (pv 0) (pv 1) rfl)
      (pss_one (ps_fld (pv 0) (pv 2) rfl))), ?_⟩
  change tSeq _ _ _ [some (V.ref x), some a, some b] H
  walk_at "go"
  refine r_sfld hx CL.cls CL.pairs (by show 0 < 1000; decide) ?_
  walk_at "go"
  refine r_sfld upd_same CL.cls CL.presses (by show 1 < 1000; decide) ?_
  exact k
def sp_press_path (K : PySem.W.Frag) (CN : Addr) : Sp := fun vs H Q _ => ∃ (x y : Addr) (ss : List Str) (c d : Core) (row : List Nat), vs = [.ref x, .ref y] ∧ NetAt CN H x ss c ∧ NetAt CN H y ss d ∧ NetP ss c ∧ (d, row) ∈ reach ss.length c ∧ Res H Q fun v H' => StrT H' v (row.map (sg ss))
theorem c_press_path (B : Bi mg) (CL : ClsN K CN) (c_core_path : C8.Cal P w K mg base 2 "core_path" (sp_core_path K) []) (D : DB K mg "press_path" s_press_path ["one", "two"]) : C8.Cal P w K mg base 3 "press_path" (sp_press_path K CN) [] := by
  obtain ⟨f, fd, F, b⟩ := D.ex
  have nd := sc_press_path.nd
  refine C8.cal0 F b .nil sc_press_path (fun vs H Q E h => by obtain ⟨x, y, ss, c, d, row, rfl, _⟩ := h; rfl) fun cdv A outer s H vs Q E hr h => ?_
  obtain ⟨x, y, ss, c, d, row, rfl, ⟨dx, p, o, pc, pt, ts, hx, ho, hp, hc, ht, _⟩, ⟨dy, p', o', pc', pt', ts', hy, ho', hp', hc', ht', _⟩, N, hrow, k⟩ := h
  refine ⟨(tSeq (tIfS (tTest (tOp (rNeD K) (tFld K (tVar 0) "points") (tFld K (tVar 1) "points"))) tNever tNext)
      (tSeq (tAsg (tCall (sp_core_path K) [] C8.E0 (tCons (tFld K (tVar 0) "core") (tCons (tFld K (tVar 1) "core") tNil))) (gName 2))
      (tSeq (tIfS (tTest (tOp rIsN (tVar 2) (tC .non))) (tRet (tC .non)) tNext)
      (tRet (tCB (rTupOf K) (tCons (tLc (iTup K (tVar 2)) (gName 3) tYes (tOp (rIxT K) (tFld K (tVar 0) "points") (tVar 3)) [3]) tNil)))))),
      (pss_cons (ps_if (pt_cmpR (op_neD hr.units) (pe_fld (pv 0) rfl) (pe_fld (pv 1) rfl) (nomark _)) (pss_one ps_never) pss_nil)
      (pss_cons (ps_set (i := 2) nd rfl (by first | exact Or.inl rfl | exact Or.inr rfl) (C8.pe_c c_core_path hr (by decide) rfl (pa_cons (pe_fld (pv 0) rfl) (pa_cons (pe_fld (pv 1) rfl) pa_nil))))
      (pss_cons (ps_if (pt_cmpR op_isN (pv 2) pe_non (nomark _)) (pss_one (ps_ret pe_non)) pss_nil)
      (pss_one (ps_ret (pe_callTy call_tuple_of (by rfl) B.tuple (by decide +kernel) (pa_cons (pe_lc (own := [("at", 3)]) (g := (gName 3)) (tt := tYes) (te := (tOp (rIxT K) (tFld K (tVar 0) "points") (tVar 3))) rfl nd (pi_tup (pv 2)) (blkOk_by (N := ["one", "two", "path", "at"]) (sc := C8.fnScope s_press_path) (own := [("at", 3)]) (by decide +kernel)) (fun _ _ _ _ _ => (pg_name (i := 3) nd rfl (by first | exact Or.inl rfl | exact Or.inr rfl))) (fun _ _ _ _ _ => pts_nil) (fun _ _ _ _ _ => (pe_ix ix_tup (pe_fld (pv 0) rfl) (pv 3) (fun _ _ => rfl)))) pa_nil))))))), ?_⟩
  change tSeq _ _ _ [some (V.ref x), some (V.ref y), none, none] H
  walk_at "go"
  refine r_fld hx CL.cls CL.points rfl ?_
  walk_at "go"
  refine r_fld hy CL.cls CL.points rfl ?_
  refine r_neS (fun s hs => (N.val s hs).lay) (sqF hp) (sqF hp') ?_
  walk_at "go"
  refine iteF ?_
  walk_at "go"
  refine r_fld hx CL.cls CL.core rfl ?_
  walk_at "go"
  refine r_fld hy CL.cls CL.core rfl ?_
  walk_at "go"
  have hok := reach_ok N.good
  have hfew := hok.few N.five
  refine ⟨_, _, c, d, ss.length, row, rfl, ⟨pc, rfl, hc⟩, ⟨pc', rfl, hc'⟩, N.good, N.five, hrow, fun v H1 s1 hv => ?_⟩
  obtain ⟨q, rfl, hq⟩ := hv
  walk_at "go"
  refine ⟨rfl, ?_⟩
  walk_at "go"
  rw [decide_eq_false (by intro z; cases z)]
  refine iteF ?_
  have hrl := hok.len _ hrow
  have hrr := hok.row _ hrow
  simp only at hrl hrr
  walk_at "go"
  refine c_t (xs := row.map nV) (fun i acc _ => acc = ((row.map (sg ss)).take i).map V.str) (fun _ _ _ _ _ e => e) hq rfl (fun D acc i z H' hD hz hi s e zz r => ?_) (fun l H2 acc nl s2 el _ ea => ?_)
  · rw [List.length_map] at hi
    rw [ns_at hi] at hz
    cases hz
    refine ⟨rfl, ?_⟩
    walk_at "go"
    refine iteT ?_
    walk_at "go"
    refine r_fld (s _ _ (s1 _ _ hx)) CL.cls CL.points rfl ?_
    walk_at "go"
    have hlt : g row i < ss.length := hrr _ (List.mem_of_getElem? (g_get hi))
    refine r_ixTS (sqF (s _ _ (s1 _ _ hp))) (sg_at hlt) ?_
    refine lc_yes (fun _ _ _ _ _ e => e) hD s e zz (by omega) ?_
    rw [r, List.take_add_one, List.getElem?_map, g_get hi, List.map_append]
    rfl
  rw [List.length_map, List.take_of_length_le (by simp)] at ea
  subst ea
  walk_at "go"
  refine r_tupOf el fun q nq => ?_
  obtain ⟨s3, eq⟩ := layT nq ((row.map (sg ss)).map V.str)
  exact k _ _ ((s1.trans s2).trans s3) ⟨q, rfl, eq⟩
end
end K81
end

section
open PySem PySem.Spec PyProof.Rows L2

namespace K81
local macro_rules | `(tactic| walk_at "s1") => `(tactic| first
  | with_reducible refine r_seq ?_
  | with_reducible refine r_asg ?_
  | with_reducible refine r_ret ?_
  | with_reducible refine r_if ?_
  | with_reducible refine r_app ?_
  | with_reducible refine r_drop ?_
  | with_reducible refine r_asgS ?_
  | with_reducible refine r_op ?_
  | with_reducible refine r_c ?_
  | ((with_reducible refine' r_var ?hv ?_); (case hv => exact rfl))
  | with_reducible refine r_cb ?_
  | with_reducible refine r_cons ?_
  | with_reducible refine r_nil ?_
  | with_reducible refine r_test ?_
  | with_reducible refine r_tB ?_
  | with_reducible refine r_not ?_
  | with_reducible refine r_and ?_
  | with_reducible refine r_or ?_
  | with_reducible refine r_call ?_
  | with_reducible refine r_tup ?_
  | with_reducible refine r_for1 ?_
  | with_reducible refine r_for2 ?_
  | with_reducible refine r_forT ?_
  | with_reducible refine r_forL ?_
  | with_reducible refine r_lc1 ?_
  | with_reducible refine r_lcT ?_
  | with_reducible refine r_lcL ?_
  | with_reducible refine r_lcE ?_
  | with_reducible refine r_lst ?_
  | with_reducible refine r_yes ?_
  | with_reducible refine r_next ?_
  | with_reducible refine r_nat ?_
  | with_reducible refine r_nat1 ?_
  | with_reducible refine r_i0 ?_
  | with_reducible refine r_int1 ?_
  | ((with_reducible refine' r_eq ?hs ?_); (case hs => exact rfl))
  | ((with_reducible refine' r_ne ?hs ?_); (case hs => exact rfl))
  | with_reducible refine r_bitT ?_
  | with_reducible refine r_tfld ?_
  | with_reducible refine r_tsfld ?_
  | with_reducible refine r_make ?_
  | with_reducible refine r_gN ?_
  | with_reducible refine r_din ?_
  | with_reducible refine r_dnin ?_
  | with_reducible refine r_dget ?_
  | with_reducible refine r_dput ?_
  | ((with_reducible refine' r_aug ?hv ?_); (case hv => exact rfl))
  | with_reducible refine r_bl ?_)
local macro_rules | `(tactic| walk_at "go") => `(tactic| repeat walk_at "s1")

/-! ### the renaming due -/
def hit (n : Nat) (c1 c2 : Core) (o : List Nat) : Bool := decide (moved n c2 o ∈ (reach n c1).map (·.1))
def renPairs (ss tt : List Str) (o : List Nat) : List (Str × Str) := (List.range tt.length).map fun k => (sg tt k, sg ss (g o k))
def renAns (ss : List Str) (c1 : Core) (tt : List Str) (c2 : Core) (o : List Nat) : List (Str × Str) × List Str := (renPairs ss tt o, (rowOf (reach ss.length c1) (moved ss.length c2 o)).map (sg ss))
def ren (ss : List Str) (c1 : Core) (tt : List Str) (c2 : Core) : Option (List (Str × Str) × List Str) :=
  if ss.length = tt.length then ((orders ss.length).find? (hit ss.length c1 c2)).map (renAns ss c1 tt c2) else none
theorem find_at {α : Type} {p : α → Bool} : ∀ {l : List α} {i : Nat} {x : α}, (∀ y ∈ l.take i, p y = false) → l[i]? = some x → p x = true → l.find? p = some x
  | [], _, _, _, h, _ => by simp at h
  | a :: r, 0, x, _, h, hp => by
    simp only [List.getElem?_cons_zero, Option.some.injEq] at h
    subst h
    rw [List.find?_cons, hp]
  | a :: r, i + 1, x, ha, h, hp => by
    simp only [List.getElem?_cons_succ] at h
    rw [List.find?_cons, ha a (by rw [List.take_succ_cons]; exact List.mem_cons_self ..)]
    exact find_at (fun y hy => ha y (by rw [List.take_succ_cons]; exact List.mem_cons_of_mem _ hy)) h hp
theorem ren_at {ss tt : List Str} {c1 c2 : Core} {i : Nat} {o : List Nat} (e : ss.length = tt.length) (h : ∀ y ∈ (orders ss.length).take i, hit ss.length c1 c2 y = false) (hi : (orders ss.length)[i]? = some o) (hp : hit ss.length c1 c2 o = true) : ren ss c1 tt c2 = some (renAns ss c1 tt c2 o) := by
  rw [ren, if_pos e, find_at h hi hp]
  rfl
theorem ren_no {ss tt : List Str} {c1 c2 : Core} (h : ∀ y ∈ orders ss.length, hit ss.length c1 c2 y = false) : ren ss c1 tt c2 = none := by
  rw [ren]
  split
  · rw [List.find?_eq_none.mpr fun x hx => by rw [h x hx]; decide]
    rfl
  · rfl
theorem orders_few {n : Nat} (h : n ≤ 5) : (orders n).length ≤ 3125 := ordK_few h (Nat.le_refl n)
theorem hits_snoc {n : Nat} {c1 c2 : Core} {i : Nat} {o : List Nat} (h : ∀ y ∈ (orders n).take i, hit n c1 c2 y = false) (hi : (orders n)[i]? = some o) (hp : hit n c1 c2 o = false) : ∀ y ∈ (orders n).take (i + 1), hit n c1 c2 y = false := by
  intro y hy
  rw [List.take_add_one, hi] at hy
  rcases List.mem_append.mp hy with hy | hy
  · exact h y hy
  · simp at hy
    rw [hy]
    exact hp
section
variable {P : Program} {w : World} {K : PySem.W.Frag} {mg : Str → Option Value} {base : Heap} {CN CR : Addr}
def RenV (CR : Addr) (H : Hp) (v : V) : Option (List (Str × Str) × List Str) → Prop
  | none => v = .non
  | some r => ∃ x, v = .ref x ∧ RenAt CR H x r.1 r.2
def sp_renaming_to (K : PySem.W.Frag) (CN CR : Addr) : Sp := fun vs H Q _ => ∃ (x y : Addr) (ss tt : List Str) (c d : Core), vs = [.ref x, .ref y] ∧ NetAt CN H x ss c ∧ NetAt CN H y tt d ∧ NetP ss c ∧ NetP tt d ∧ Res H Q fun v H' => RenV CR H' v (ren ss c tt d)
/-- two arguments by keywords, the second first -/
def swK {α : Type} : List α → List α → List α
  | [], [a, b] => [b, a]
  | _, _ => []
structure CalK (P : Program) (w : World) (K : PySem.W.Frag) (mg : Str → Option Value) (base : Heap) (k : Nat) (x : Str) (sp : Sp) (ks : List Str) : Prop where
  ex : ∃ (f : Addr) (fd : FuncData) (ps : List Str), FnOk P w K mg base C8.CX0 k f fd ps sp ∧ mg x = some (.ref f) ∧ PySem.W.keepIn K (.ref f) = true ∧ KBinds K fd ps ks swK swK
structure DK (K : PySem.W.Frag) (mg : Str → Option Value) (x : Str) (st : Stmt) (ps ks : List Str) : Prop where
  ex : ∃ (f : Addr) (fd : FuncData), C8.Def K mg x st f fd ∧ Binds K fd ps [] ∧ KBinds K fd ps ks swK swK
theorem pe_ck {X : Cx} {k j : Nat} {x : Str} {p pos : Pos} {kws : List Keyword} {tk : TA} {ks : List Str} {sp : Sp} (c : CalK X.prog X.w X.K X.mg X.base k x sp ks) (hr : Room j X.A) (hk : k ≤ j) (hg : Gl X x) (hkw : PK X kws tk)
    (hall : (backToKw pos (keywordEach kws X.env)).all (·.1.isSome) = true := by rfl) (hks : (backToKw pos (keywordEach kws X.env)).filterMap (·.1) = ks := by rfl) (hdb : (x == ("__debug__" : Str)) = false := by decide)
    (hpl : ((backTo pos (starEach [] X.env)).any (·.1) || (backToKw pos (keywordEach kws X.env)).any (·.1.isNone)) = false := by rfl) :
    PE X (.Call (.Name x p) [] kws pos) (tCallK sp swK C8.E0 tNil tk) := by
  obtain ⟨f, fd, ps, F, hm, kp, b⟩ := c.ex
  exact pe_callK0 F (hr.mono hk) hg hm kp b C8.pass0 hkw hall hks hdb hpl
theorem c_renaming_to (B : Bi mg) (CL : ClsN K CN) (c_net_len : C8.Met P w K mg base 1 CN "__len__" (sp_net_len K CN) []) (c_reached_cores : C8.Cal P w K mg base 2 "reached_cores" (sp_reached_cores K) []) (c_orders_of : C8.Cal P w K mg base 1 "orders_of" (sp_orders_of K) [])
    (c_placed_core : C8.Cal P w K mg base 1 "placed_core" (sp_placed_core K) []) (c_ren_init : C8.Mak P w K mg base 1 "Renaming" CR (sp_ren_init K CR) []) (c_press_path : C8.Cal P w K mg base 3 "press_path" (sp_press_path K CN) []) (c_net_of_core : C8.Cal P w K mg base 6 "net_of_core" (sp_net_of_core K CN) [])
    (D : DK K mg "renaming_to" s_renaming_to ["one", "two"] ["two", "one"]) : C8.Cal P w K mg base 7 "renaming_to" (sp_renaming_to K CN CR) [] ∧ CalK P w K mg base 7 "renaming_to" (sp_renaming_to K CN CR) ["two", "one"] := by
  obtain ⟨f, fd, F, b, kb⟩ := D.ex
  have nd := sc_renaming_to.nd
  suffices hF : FnOk P w K mg base C8.CX0 7 f fd ["one", "two"] (sp_renaming_to K CN CR) from ⟨⟨f, fd, _, [], hF, F.mgf, F.kp, b, .nil⟩, ⟨f, fd, _, hF, F.mgf, F.kp, kb⟩⟩
  refine C8.fn0 F.fn sc_renaming_to (fun vs H Q E h => by obtain ⟨x, y, ss, tt, c, d, rfl, _⟩ := h; rfl) fun cdv A outer s H vs Q E hr h => ?_
  obtain ⟨x, y, ss, tt, c, d, rfl, nx, ny, N1, N2, k⟩ := h
  have nx0 := nx
  obtain ⟨dx, p, o, pc, pt, ts, hx, ho, hp, hc, ht, _⟩ := nx
  have ny0 := ny
  obtain ⟨dy, p', o', pc', pt', ts', hy, ho', hp', hc', ht', _⟩ := ny
  have five := N1.five
  refine ⟨(tSeq (tIfS (tTest (tOp rNe (tCB (rLenO CN (sp_net_len K CN)) (tCons (tVar 0) tNil)) (tCB (rLenO CN (sp_net_len K CN)) (tCons (tVar 1) tNil)))) (tRet (tC .non)) tNext)
      (tSeq (tAsg (tDcT (iTup K (tCall (sp_reached_cores K) [] C8.E0 (tCons (tFld K (tVar 0) "core") tNil))) (gName 4) tYes (tVar 4) (tC (.bl true)) [4]) (gName 2))
      (tSeq (tFor (iList K (tCall (sp_orders_of K) [] C8.E0 (tCons (tCB (rLenO CN (sp_net_len K CN)) (tCons (tVar 0) tNil)) tNil))) (gName 3) (tSeq (tAsg (tCall (sp_placed_core K) [] C8.E0 (tCons (tFld K (tVar 1) "core") (tCons (tVar 3) tNil))) (gName 4))
        (tIfS (tB (tDIn (tVar 4) (tVar 2))) (tSeq (tAsg (tCB (rTupOf K) (tCons (tLc (iEnumT K (tCons (tFld K (tVar 1) "points") tNil)) (gTup K 2 (gCons (gName 6) (gCons (gName 7) gNil))) tYes (tTup (tCons (tVar 7) (tCons (tOp (rIxT K) (tFld K (tVar 0) "points") (tOp (rIxT K) (tVar 3) (tVar 6))) tNil))) [6, 7]) tNil)) (gName 5))
          (tRet (tMake CR (sp_ren_init K CR) [] C8.E0 (tCons (tVar 5) (tCons (tCall (sp_press_path K CN) [] C8.E0 (tCons (tVar 0) (tCons (tCall (sp_net_of_core K CN) [] C8.E0 (tCons (tFld K (tVar 0) "points") (tCons (tVar 4) tNil))) tNil))) tNil))))) tNext)))
      (tRet (tC .non))))),
      (pss_cons (ps_if (pt_cmpR op_ne (pe_callB (len_net c_net_len hr (by decide)) (by rfl) B.len PySem.boot_len (pa_cons (pv 0) pa_nil)) (pe_callB (len_net c_net_len hr (by decide)) (by rfl) B.len PySem.boot_len (pa_cons (pv 1) pa_nil)) (nomark _)) (pss_one (ps_ret pe_non)) pss_nil)
      (pss_cons (ps_setDcT (i := 2) (own := [("core", 4)]) (g := (gName 4)) (tt := tYes) (tk := (tVar 4)) (tv := (tC (.bl true))) (hu_of hr) rfl nd rfl rfl (sw_trueD rfl rfl rfl (by decide +kernel)) (pi_tup (C8.pe_c c_reached_cores hr (by decide) rfl (pa_cons (pe_fld (pv 0) rfl) pa_nil))) (blkOk_by (N := ["one", "two", "known", "order", "core", "pairs", "k", "old"]) (sc := C8.fnScope s_renaming_to) (own := [("core", 4)]) (by decide +kernel)) (fun _ _ _ _ _ => (pg_name (i := 4) nd rfl (by first | exact Or.inl rfl | exact Or.inr rfl))) (fun _ _ _ _ _ => pts_nil) (fun _ _ _ _ _ => (pv 4)) (fun _ _ _ _ _ => pe_bl))
      (pss_cons (ps_for PassesOwn.never rfl (pi_list (C8.pe_c c_orders_of hr (by decide) rfl (pa_cons (pe_callB (len_net c_net_len hr (by decide)) (by rfl) B.len PySem.boot_len (pa_cons (pv 0) pa_nil)) pa_nil))) (pg_name (i := 3) nd rfl (by first | exact Or.inl rfl | exact Or.inr rfl)) (pss_cons (ps_set (i := 4) nd rfl (by first | exact Or.inl rfl | exact Or.inr rfl) (C8.pe_c c_placed_core hr (by decide) rfl (pa_cons (pe_fld (pv 1) rfl) (pa_cons (pv 3) pa_nil))))
        (pss_one (ps_if (pt_cmp (pc_din (hu_of hr) (pv 4) (pv 2)) rfl) (pss_cons (ps_set (i := 5) nd rfl (by first | exact Or.inl rfl | exact Or.inr rfl) (pe_callTy call_tuple_of (by rfl) B.tuple (by decide +kernel) (pa_cons (pe_lc (own := [("k", 6), ("old", 7)]) (g := (gTup K 2 (gCons (gName 6) (gCons (gName 7) gNil)))) (tt := tYes) (te := (tTup (tCons (tVar 7) (tCons (tOp (rIxT K) (tFld K (tVar 0) "points") (tOp (rIxT K) (tVar 3) (tVar 6))) tNil)))) rfl nd (pi_enumT (by rfl) B.enumerate (pa_cons (pe_fld (pv 1) rfl) pa_nil)) (blkOk_by (N := ["one", "two", "known", "order", "core", "pairs", "k", "old"]) (sc := C8.fnScope s_renaming_to) (own := [("k", 6), ("old", 7)]) (by decide +kernel)) (fun _ _ _ _ _ => (pg_tup rfl (pgs_cons (pg_name (i := 6) nd rfl (by first | exact Or.inl rfl | exact Or.inr rfl)) (pgs_cons (pg_name (i := 7) nd rfl (by first | exact Or.inl rfl | exact Or.inr rfl)) pgs_nil)))) (fun _ _ _ _ _ => pts_nil) (fun _ _ _ _ _ => (pe_tup (pa_cons (pv 7) (pa_cons (pe_ix ix_tup (pe_fld (pv 0) rfl) (pe_ix ix_tup (pv 3) (pv 6) (fun _ _ => rfl)) (fun _ _ => rfl)) pa_nil))))) pa_nil)))
          (pss_one (ps_ret (C8.pe_mk c_ren_init hr (by decide) rfl (pa_cons (pv 5) (pa_cons (C8.pe_c c_press_path hr (by decide) rfl (pa_cons (pv 0) (pa_cons (C8.pe_c c_net_of_core hr (by decide) rfl (pa_cons (pe_fld (pv 0) rfl) (pa_cons (pv 4) pa_nil))) pa_nil))) pa_nil)))))) pss_nil))))
      (pss_one (ps_ret pe_non))))), ?_⟩
  change tSeq _ _ _ [some (V.ref x), some (V.ref y), none, none, none, none, none, none] H
  walk_at "go"
  refine ⟨x, _, _, rfl, hx, x, ss, c, rfl, nx0, ss.length, rfl, by omega, ?_⟩
  walk_at "go"
  have five2 := N2.five
  refine ⟨y, _, _, rfl, hy, y, tt, d, rfl, ny0, tt.length, rfl, by omega, ?_⟩
  walk_at "go"
  by_cases hlen : ss.length = tt.length
  · have en : (!decide (nV ss.length = nV tt.length)) = false := by rw [hlen]; simp
    rw [en]
    refine iteF ?_
    walk_at "go"
    refine r_dcT ?_
    walk_at "go"
    refine r_fld hx CL.cls CL.core rfl ?_
    walk_at "go"
    refine ⟨_, c, ss.length, rfl, ⟨pc, rfl, hc⟩, N1.good, five, fun v H1 s1 hv => ?_⟩
    obtain ⟨a, xs, rfl, ha, px⟩ := hv
    have hok := reach_ok N1.good
    have hfew := hok.few five
    refine d_t (fun _ => rfl) (fun _ => rfl) ha px hok.nd (by rw [List.length_map]; omega) fun D H2 vs hD s2 ed hvl => ?_
    walk_at "go"
    refine ⟨x, _, _, rfl, (s1.trans s2) _ _ hx, x, ss, c, rfl, nx0.s (s1.trans s2), ss.length, rfl, by omega, ?_⟩
    refine ⟨ss.length, rfl, five, fun v H3 s3 hv => ?_⟩
    obtain ⟨l, os, rfl, hl, po⟩ := hv
    have sA := (s1.trans s2).trans s3
    have hol := Paired.length po
    refine w_l (fun i σ' H' => ∃ v3 v4, σ' = [some (V.ref x), some (V.ref y), some (V.ref D), v3, v4, none, none, none] ∧ Same H3 H' ∧ ∀ o ∈ (orders ss.length).take i, hit ss.length c d o = false) hl ?_ ?_ ?_ ?_
    · exact ⟨_, _, rfl, Same.refl _, fun o ho => by simp at ho⟩
    · rintro i σ' H' _ ⟨_, _, rfl, s4, _⟩
      exact s4 _ _ hl
    · rintro i z σ' H4 hz ⟨v3, v4, rfl, s4, hno⟩
      have hi : i < (orders ss.length).length := by
        have := (List.getElem?_eq_some_iff.mp hz).1
        omega
      have hoi := List.getElem?_eq_getElem hi
      obtain ⟨z', hz', oa, rfl, hoa⟩ := K81.Paired.get po hoi
      rw [hz] at hz'
      cases hz'
      have hord := orders_ok (List.getElem_mem hi)
      generalize (orders ss.length)[i] = od at *
      have sB := sA.trans s4
      walk_at "go"
      refine r_fld (sB _ _ hy) CL.cls CL.core rfl ?_
      walk_at "go"
      have gd : Good ss.length d := by rw [hlen]; exact N2.good
      refine ⟨_, _, d, od, ss.length, rfl, ⟨pc', rfl, sB _ _ hc'⟩, ⟨oa, rfl, s4 _ _ hoa⟩, gd, hord, by omega, fun v H5 s5 hv => ?_⟩
      obtain ⟨m, rfl, hm⟩ := hv
      have gm := moved_good hord gd
      have s35 := s4.trans s5
      walk_at "go"
      by_cases hin : moved ss.length d od ∈ (reach ss.length c).map (·.1)
      · obtain ⟨i', u, e1, e2, e3⟩ := dC_yes (vs := vs) hok.nd hvl hin
        refine ⟨D, _, rfl, g_yes (s35 _ _ (s3 _ _ ed)) hm hok.nd e1 e2, ?_⟩
        walk_at "go"
        refine iteT ?_
        have hrow : (moved ss.length d od, rowOf (reach ss.length c) (moved ss.length d od)) ∈ reach ss.length c := rowOf_mem hin
        have hans := ren_at hlen hno hoi (decide_eq_true hin)
        rw [renAns] at hans
        generalize rowOf (reach ss.length c) (moved ss.length d od) = row at hans hrow
        have sC := sB.trans s5
        walk_at "go"
        refine r_fld (sC _ _ hy) CL.cls CL.points rfl ?_
        walk_at "go"
        refine c_eS (xs := tt.map V.str) (fun i acc H' => Paired (PS2 H') acc ((renPairs ss tt od).take i)) (fun _ _ _ _ e r => ps2_t e r) (sqF (sC _ _ hp')) .nil (fun D acc j z H' hD hz hj s e zz r => ?_) (fun l' H6 acc nl s6 el _ ea => ?_)
        · rw [List.length_map] at hj
          rw [sg_at hj] at hz
          cases hz
          refine ⟨rfl, ?_⟩
          walk_at "go"
          refine iteT ?_
          walk_at "go"
          refine r_fld (s _ _ (sC _ _ hx)) CL.cls CL.points rfl ?_
          walk_at "go"
          refine r_ixT (s _ _ (s35 _ _ hoa)) (ns_at (by rw [hord.len]; omega)) ?_
          refine r_ixTS (sqF (s _ _ (sC _ _ hp))) (sg_at (hord.get_lt (by omega))) ?_
          walk_at "go"
          refine ⟨by show 2 ≤ sizeLine; decide, fun q nq => ?_⟩
          obtain ⟨s6, eq⟩ := layT nq [V.str (sg tt j), V.str (sg ss (g od j))]
          refine lc_yes (fun _ _ _ _ e r => ps2_t e r) hD (s.trans s6) (s6 _ _ e) zz (by omega) ?_
          have ht : (renPairs ss tt od).take (j + 1) = (renPairs ss tt od).take j ++ [(sg tt j, sg ss (g od j))] := by
            rw [List.take_add_one, renPairs, List.getElem?_map, List.getElem?_range hj]
            rfl
          rw [ht]
          exact Paired.snoc (ps2_t s6.tup r) ⟨q, rfl, eq⟩
        rw [List.length_map, List.take_of_length_le (by simp [renPairs])] at ea
        walk_at "go"
        refine r_tupOf el fun pp npp => ?_
        obtain ⟨s7, epp⟩ := layT npp acc
        have sD := (sC.trans s6).trans s7
        walk_at "go"
        refine r_fld (sD _ _ hx) CL.cls CL.points rfl ?_
        walk_at "go"
        refine ⟨_, _, ss, moved ss.length d od, rfl, ⟨p, o, rfl, ho, sD _ _ hp⟩, ⟨m, rfl, s7 _ _ (s6 _ _ hm)⟩, ⟨gm, N1.srt, N1.nd, N1.val, N1.five⟩, fun v H8 s8 hv => ?_⟩
        obtain ⟨y2, rfl, ny2⟩ := hv
        walk_at "go"
        refine ⟨x, y2, ss, c, moved ss.length d od, row, rfl, nx0.s (sD.trans s8), ny2, N1, hrow, fun v H9 s9 hv => ?_⟩
        obtain ⟨pr, rfl, hpr⟩ := hv
        walk_at "go"
        intro r dr hr hdr hne
        refine ⟨r, dr, _, _, rfl, upd_same, rfl, ?_⟩
        have sE := sD.trans (s8.trans s9)
        have sx : SX r (upd (upd H9 dr (.own r)) r (.ins CR dr [])) (upd (upd (upd (upd H9 dr (.own r)) r (.ins CR dr [])) r (.ins CR dr [("pairs", .ref pp)])) r (.ins CR dr [("pairs", .ref pp), ("presses", .ref pr)])) := (Same.sx (Same.refl _)).upd.upd
        have sF := SX.made hr hdr sx
        refine k _ _ (sE.trans sF) ?_
        rw [hans]
        refine ⟨r, rfl, dr, pp, pr, acc, upd_same, sF _ _ (s9 _ _ (s8 _ _ epp)), ?_, sF _ _ hpr⟩
        exact ps2_t (s7.trans (s8.trans (s9.trans sF))).tup ea
      · refine ⟨D, _, rfl, g_no (s35 _ _ (s3 _ _ ed)) hm hin, ?_⟩
        walk_at "go"
        refine iteF ?_
        exact ⟨_, _, rfl, s35, hits_snoc hno hoi (decide_eq_false hin)⟩
    · rintro σ' H4 ⟨v3, v4, rfl, s4, hno⟩
      rw [List.take_of_length_le (by omega)] at hno
      walk_at "go"
      refine k _ _ (sA.trans s4) ?_
      rw [ren_no hno]
      rfl
  · have en : (!decide (nV ss.length = nV tt.length)) = true := by
      rw [decide_eq_false (fun e => hlen (by have := V.int.inj e; omega))]
      rfl
    rw [en]
    refine iteT ?_
    walk_at "go"
    refine k _ _ (Same.refl _) ?_
    rw [ren, if_neg hlen]
    rfl
end
end K81
end

section
open PySem PySem.Spec PyProof.Rows L2

namespace K81
local macro_rules | `(tactic| walk_at "s1") => `(tactic| first
  | with_reducible refine r_seq ?_
  | with_reducible refine r_asg ?_
  | with_reducible refine r_ret ?_
  | with_reducible refine r_if ?_
  | with_reducible refine r_app ?_
  | with_reducible refine r_drop ?_
  | with_reducible refine r_asgS ?_
  | with_reducible refine r_op ?_
  | with_reducible refine r_c ?_
  | ((with_reducible refine' r_var ?hv ?_); (case hv => exact rfl))
  | with_reducible refine r_cb ?_
  | with_reducible refine r_cons ?_
  | with_reducible refine r_nil ?_
  | with_reducible refine r_test ?_
  | with_reducible refine r_tB ?_
  | with_reducible refine r_not ?_
  | with_reducible refine r_and ?_
  | with_reducible refine r_or ?_
  | with_reducible refine r_call ?_
  | with_reducible refine r_tup ?_
  | with_reducible refine r_for1 ?_
  | with_reducible refine r_for2 ?_
  | with_reducible refine r_forT ?_
  | with_reducible refine r_forL ?_
  | with_reducible refine r_lc1 ?_
  | with_reducible refine r_lcT ?_
  | with_reducible refine r_lcL ?_
  | with_reducible refine r_lcE ?_
  | with_reducible refine r_lst ?_
  | with_reducible refine r_yes ?_
  | with_reducible refine r_next ?_
  | with_reducible refine r_nat ?_
  | with_reducible refine r_nat1 ?_
  | with_reducible refine r_i0 ?_
  | with_reducible refine r_int1 ?_
  | ((with_reducible refine' r_eq ?hs ?_); (case hs => exact rfl))
  | ((with_reducible refine' r_ne ?hs ?_); (case hs => exact rfl))
  | with_reducible refine r_bitT ?_
  | with_reducible refine r_tfld ?_
  | with_reducible refine r_tsfld ?_
  | with_reducible refine r_make ?_
  | with_reducible refine r_callK ?_
  | with_reducible refine r_gN ?_
  | with_reducible refine r_din ?_
  | with_reducible refine r_dnin ?_
  | with_reducible refine r_dget ?_
  | with_reducible refine r_dput ?_
  | ((with_reducible refine' r_aug ?hv ?_); (case hv => exact rfl))
  | with_reducible refine r_bl ?_)
local macro_rules | `(tactic| walk_at "go") => `(tactic| repeat walk_at "s1")

abbrev s_law_has : Stmt := topS 41
theorem sc_law_has : FnScope ["_law_mask", "_law_k"] ["_law_mask", "_law_k"] (C8.fnScope s_law_has) := C8.fnScope_by (by decide +kernel)
abbrev s_law_pairs : Stmt := topS 39
theorem sc_law_pairs : FnScope ["_law_many", "_law_pairs_here", "_law_i", "_law_k"] ["_law_many"] (C8.fnScope s_law_pairs) := C8.fnScope_by (by decide +kernel)
abbrev s_law_press : Stmt := topS 43
theorem sc_law_press : FnScope ["_law_masks_here", "_law_at", "_law_after", "_law_i", "_law_k"] ["_law_masks_here", "_law_at"] (C8.fnScope s_law_press) := C8.fnScope_by (by decide +kernel)
abbrev s_law_orders : Stmt := topS 46
theorem sc_law_orders : FnScope ["_law_many", "_law_orders_here", "_law_step", "_law_longer", "_law_order", "_law_k"] ["_law_many"] (C8.fnScope s_law_orders) := C8.fnScope_by (by decide +kernel)
abbrev s_law_moved : Stmt := topS 47
theorem sc_law_moved : FnScope ["_law_masks_here", "_law_order", "_law_after", "_law_k", "_law_mask", "_law_j"] ["_law_masks_here", "_law_order"] (C8.fnScope s_law_moved) := C8.fnScope_by (by decide +kernel)

section
variable {X : Cx}
def rIxA (K : PySem.W.Frag) : R2 := fun x y H Q => rIxL K x y H Q ∨ rIxT K x y H Q
theorem ix_any : IxR X (rIxA X.K) := by
  intro value slice pins s σ H x y v u Q I rx ry h hs
  rcases h with h | h
  · exact ix_list value slice pins s σ H x y v u Q I rx ry h hs
  · exact ix_tup value slice pins s σ H x y v u Q I rx ry h hs
end
section
variable {P : Program} {w : World} {K : PySem.W.Frag} {mg : Str → Option Value} {base : Heap} {CN CR : Addr}
theorem r_catA {H : Hp} {Q : VK} {a b : Addr} {xs : List V} {y : V} (ha : H a = some (.tup xs)) (hb : H b = some (.tup [y])) (z : xs.length ≤ 100000) (q : ∀ v H', Same H H' → H' v = some (.tup (xs ++ [y])) → Q (.ref v) H') : rCatA K (.ref a) (.ref b) H Q := by
  refine ⟨a, b, xs, [y], rfl, rfl, SqT.of ha, SqT.of hb, Nat.le_trans (show xs.length + 1 ≤ 200000 by omega) (by decide), fun e => ?_, (fun _ e => nomatch e), fun _ _ p np => q p _ (Same.lay np) upd_same⟩
  subst e
  exact q b H (Same.refl _) hb
/-- masks in a list or a tuple -/
def MA (H : Hp) (a : Addr) (c : List Nat) : Prop := H a = some (.lst (c.map nV)) ∨ H a = some (.tup (c.map nV))
theorem MA.s {H H' : Hp} {a : Addr} {c : List Nat} (e : Same H H') (h : MA H a c) : MA H' a c := h.imp (e _ _) (e _ _)
theorem MA.ix {H : Hp} {Q : VK} {a : Addr} {c : List Nat} {i : Nat} (h : MA H a c) (hi : i < c.length) (q : Q (nV (g c i)) H) : rIxA K (.ref a) (nV i) H Q :=
  h.elim (fun h => .inl (r_ixL h (ns_at hi) q)) (fun h => .inr (r_ixT h (ns_at hi) q))
theorem MA.len {H : Hp} {Q : VK} {a : Addr} {c : List Nat} (h : MA H a c) (q : Q (nV c.length) H) : rLenS K [.ref a] H Q :=
  ⟨a, c.map nV, rfl, h.imp SqL.of SqT.of, by rw [List.length_map]; exact q⟩
theorem MA.lst {H : Hp} {Q : VK} {a : Addr} {c : List Nat} (h : MA H a c) (q : ∀ l, H l = none → Q (.ref l) (upd H l (.lst (c.map nV)))) : rListOf K [.ref a] H Q :=
  ⟨a, c.map nV, rfl, h.imp SqL.of SqT.of, q⟩
def sp_law_has (K : PySem.W.Frag) : Sp := fun vs H Q _ => ∃ m k : Nat, vs = [nV m, nV k] ∧ Q (.bl (m.testBit k)) H
theorem c_law_has (B : Bi mg) (D : DB K mg "_law_has" s_law_has ["_law_mask", "_law_k"]) : C8.Cal P w K mg base 1 "_law_has" (sp_law_has K) [] := by
  obtain ⟨f, fd, F, b⟩ := D.ex
  have nd := sc_law_has.nd
  refine C8.cal0 F b .nil sc_law_has (fun vs H Q E h => by obtain ⟨m, k, rfl, _⟩ := h; rfl) fun cdv A outer s H vs Q E hr h => ?_
  obtain ⟨m, j, rfl, k⟩ := h
  refine ⟨(tRet (tOp rEq (tOp rAndT (tOp rShrT (tVar 0) (tVar 1)) (tC (.int 1))) (tC (.int 1)))),
      (pss_one (ps_ret (pe_cmpR op_eq (pe_op op_andT (pe_op op_shrT (pv 0) (pv 1)) pe_int) pe_int (nomark _)))), ?_⟩
  change tRet _ _ [some (nV m), some (nV j)] H
  walk_at "go"
  show Q (.bl (decide (nV ((m >>> j) &&& 1) = V.int 1))) H
  rw [bit_eq]
  exact k
def sp_law_pairs (K : PySem.W.Frag) : Sp := fun vs H Q _ => ∃ n : Nat, vs = [nV n] ∧ n ≤ 10 ∧ Res H Q fun v H' => ∃ a xs, v = .ref a ∧ H a = none ∧ H' a = some (.lst xs) ∧ Paired (P2 H') xs (pairs n)
theorem c_law_pairs (B : Bi mg) (D : DB K mg "_law_pairs" s_law_pairs ["_law_many"]) : C8.Cal P w K mg base 1 "_law_pairs" (sp_law_pairs K) [] := by
  obtain ⟨f, fd, F, b⟩ := D.ex
  have nd := sc_law_pairs.nd
  refine C8.cal0 F b .nil sc_law_pairs (fun vs H Q E h => by obtain ⟨n, rfl, _⟩ := h; rfl) fun cdv A outer s H vs Q E hr h => ?_
  obtain ⟨n, rfl, hn, k⟩ := h
  refine ⟨(tSeq (tAsg (tLst tNil) (gName 1))
      (tSeq (tFor (iRng1 (tCons (tVar 0) tNil)) (gName 2) (tFor (iRng2 (tCons (tOp rAddI (tVar 2) (tC (.int 1))) (tCons (tVar 0) tNil))) (gName 3) (tDrop (tBM K "list" rAppend (tVar 1) (tCons (tTup (tCons (tVar 2) (tCons (tVar 3) tNil))) tNil)))))
      (tRet (tVar 1)))),
      (pss_cons (ps_set (i := 1) nd rfl (by first | exact Or.inl rfl | exact Or.inr rfl) (pe_lst pa_nil))
      (pss_cons (ps_for PassesOwn.never rfl (pi_range1 (by rfl) B.range (pa_cons (pv 0) pa_nil)) (pg_name (i := 2) nd rfl (by first | exact Or.inl rfl | exact Or.inr rfl)) (pss_one (ps_for PassesOwn.never rfl (pi_range2 (by rfl) B.range (pa_cons (pe_op op_add (pv 2) pe_int) (pa_cons (pv 0) pa_nil))) (pg_name (i := 3) nd rfl (by first | exact Or.inl rfl | exact Or.inr rfl)) (pss_one (ps_expr (pe_bm PySem.F.plainAttrs_list PySem.F.slot_list_append PySem.F.type_list_append mt_append (pv 1) (pa_cons (pe_tup (pa_cons (pv 2) (pa_cons (pv 3) pa_nil))) pa_nil)))))))
      (pss_one (ps_ret (pv 1))))), ?_⟩
  change tSeq _ _ _ [some (nV n), none, none, none] H
  walk_at "go"
  refine ⟨Nat.zero_le _, fun l nl => ?_⟩
  obtain ⟨s1, hl⟩ := layL nl []
  walk_at "go"
  refine w_r1 (fun i σ' H' => ∃ v2 v3 xs, σ' = [some (nV n), some (.ref l), v2, v3] ∧ Same H H' ∧ H' l = some (.lst xs) ∧ Paired (P2 H') xs (pairsK n i)) (by omega) ?_ ?_ ?_
  · exact ⟨none, none, [], rfl, s1, hl, .nil⟩
  · rintro i σ' H' hi ⟨v2, v3, xs, rfl, s2, el, px⟩
    walk_at "go"
    refine w_r2 (i + 1) n (fun j σ' H' => ∃ v3 xs, σ' = [some (nV n), some (.ref l), some (nV i), v3] ∧ Same H H' ∧ H' l = some (.lst xs) ∧ Paired (P2 H') xs (pairsK n i ++ pairTo i j)) rfl rfl (by omega) (by omega) ?_ ?_ ?_
    · exact ⟨_, xs, rfl, s2, el, by simpa [pairTo] using px⟩
    · rintro j σ' H1 hj ⟨v3, ys, rfl, s5, el, py⟩
      have hz : ys.length < 100000 := by
        have h1 := Paired.length py
        have h2 := pairsK_len n i
        have h4 : i * n ≤ 10 * 10 := Nat.mul_le_mul (by omega) hn
        rw [h1, List.length_append, pairTo_len]
        omega
      walk_at "go"
      refine r_tyL el ?_
      walk_at "go"
      refine ⟨by show 2 ≤ sizeLine; decide, fun T nT => ?_⟩
      obtain ⟨s6, eT⟩ := layT nT [nV i, nV (i + 1 + j)]
      walk_at "go"
      refine r_append (s6 _ _ el) hz ?_
      refine ⟨_, _, rfl, (s5.trans s6).chg nl, upd_same, ?_⟩
      have t7 := TSame.lst (o := .lst (ys ++ [V.ref T])) (s6 _ _ el)
      rw [pairTo_succ, ← List.append_assoc]
      exact Paired.snoc (p2_t (s6.tup.trans t7) py) ⟨T, rfl, t7 _ _ eT⟩
    · rintro σ' H1 ⟨v3, ys, rfl, s5, el, py⟩
      exact ⟨_, _, _, rfl, s5, el, py⟩
  · rintro σ' H' ⟨v2, v3, xs, rfl, s2, el, px⟩
    rw [← pairs_eq] at px
    walk_at "go"
    exact k _ _ s2 ⟨l, xs, rfl, nl, el, px⟩
/-- the list amid the law's press -/
def prC (c : Core) (a n i v : Nat) : Core := (List.range n).map fun t => if t < i then prJ c a t n else if t = i then v else g c t
theorem prC_len (c : Core) (a n i v : Nat) : (prC c a n i v).length = n := by simp [prC]
theorem prC_g {c : Core} {a n i v t : Nat} (h : t < n) : g (prC c a n i v) t = if t < i then prJ c a t n else if t = i then v else g c t := g_map_range _ _ _ h
theorem prC_at {c : Core} {a n i v : Nat} (h : i < n) : g (prC c a n i v) i = v := by
  rw [prC_g h, if_neg (by omega), if_pos rfl]
theorem prC_set {c : Core} {a n i v u : Nat} (h : i < n) : (prC c a n i v).set i u = prC c a n i u := by
  refine g_ext (by simp [prC]) fun t ht => ?_
  rw [List.length_set, prC_len] at ht
  by_cases e : i = t
  · subst e
    rw [g_set_self (by rw [prC_len]; exact h), prC_at h]
  · rw [g_set_ne e, prC_g ht, prC_g ht]
    have : ¬ t = i := fun z => e z.symm
    simp [this]
theorem prC_next {c : Core} {a n i : Nat} : prC c a n i (prJ c a i n) = prC c a n (i + 1) (g c (i + 1)) := by
  refine g_ext (by simp [prC]) fun t ht => ?_
  rw [prC_len] at ht
  rw [prC_g ht, prC_g ht]
  by_cases e1 : t < i
  · rw [if_pos e1, if_pos (by omega)]
  · by_cases e2 : t = i
    · subst e2
      rw [if_neg (by omega), if_pos rfl, if_pos (by omega)]
    · rw [if_neg e1, if_neg e2, if_neg (by omega)]
      by_cases e3 : t = i + 1
      · subst e3; rw [if_pos rfl]
      · rw [if_neg e3]
theorem prC_zero {c : Core} {a n : Nat} (h : c.length = n) : prC c a n 0 (g c 0) = c := by
  refine g_ext (by rw [prC_len, h]) fun t ht => ?_
  rw [prC_len] at ht
  rw [prC_g ht, if_neg (by omega)]
  by_cases e : t = 0
  · rw [if_pos e, e]
  · rw [if_neg e]
theorem prC_end {c : Core} {a n v : Nat} (h : Good n c) (ha : a < n) : prC c a n n v = press c a := by
  refine g_ext (by rw [prC_len, press_len, h.1]) fun t ht => ?_
  rw [prC_len] at ht
  rw [prC_g ht, if_pos ht, prJ_eq h ha]
def sp_law_press (K : PySem.W.Frag) : Sp := fun vs H Q _ => ∃ (p : Addr) (c : Core) (a n : Nat), vs = [.ref p, nV a] ∧ MA H p c ∧ Good n c ∧ a < n ∧ n ≤ 10 ∧ Res H Q fun v H' => IL H' v (press c a)
theorem c_law_press (B : Bi mg) (c_law_has : C8.Cal P w K mg base 1 "_law_has" (sp_law_has K) []) (D : DB K mg "_law_press" s_law_press ["_law_masks_here", "_law_at"]) : C8.Cal P w K mg base 2 "_law_press" (sp_law_press K) [] := by
  obtain ⟨f, fd, F, b⟩ := D.ex
  have nd := sc_law_press.nd
  refine C8.cal0 F b .nil sc_law_press (fun vs H Q E h => by obtain ⟨p, c, a, n, rfl, _⟩ := h; rfl) fun cdv A outer s H vs Q E hr h => ?_
  obtain ⟨p, c, a, n, rfl, hp, hg, ha, hn, k⟩ := h
  refine ⟨(tSeq (tAsg (tCB (rListOf K) (tCons (tVar 0) tNil)) (gName 2))
      (tSeq (tFor (iRng1 (tCons (tCB (rLenS K) (tCons (tVar 0) tNil)) tNil)) (gName 3) (tFor (iRng1 (tCons (tCB (rLenS K) (tCons (tVar 0) tNil)) tNil)) (gName 4) (tIfS (tAnd (tTest (tOp rNe (tVar 3) (tVar 4))) (tAnd (tB (tCall (sp_law_has K) [] C8.E0 (tCons (tOp (rIxA K) (tVar 0) (tVar 1)) (tCons (tVar 3) tNil)))) (tB (tCall (sp_law_has K) [] C8.E0 (tCons (tOp (rIxA K) (tVar 0) (tVar 1)) (tCons (tVar 4) tNil)))))) (tAsg (tOp rXorT (tOp (rIxL K) (tVar 2) (tVar 3)) (tOp rShlT (tC (.int 1)) (tVar 4))) (gSub (tVar 2) (tVar 3) rSetL)) tNext)))
      (tRet (tVar 2)))),
      (pss_cons (ps_set (i := 2) nd rfl (by first | exact Or.inl rfl | exact Or.inr rfl) (pe_callTy call_list_of (by rfl) B.list (by decide +kernel) (pa_cons (pv 0) pa_nil)))
      (pss_cons (ps_for PassesOwn.never rfl (pi_range1 (by rfl) B.range (pa_cons (pe_callB call_len_seq (by rfl) B.len PySem.boot_len (pa_cons (pv 0) pa_nil)) pa_nil)) (pg_name (i := 3) nd rfl (by first | exact Or.inl rfl | exact Or.inr rfl)) (pss_one (ps_for PassesOwn.never rfl (pi_range1 (by rfl) B.range (pa_cons (pe_callB call_len_seq (by rfl) B.len PySem.boot_len (pa_cons (pv 0) pa_nil)) pa_nil)) (pg_name (i := 4) nd rfl (by first | exact Or.inl rfl | exact Or.inr rfl)) (pss_one (ps_if (PW.pt (pw_and (pt_cmpR op_ne (pv 3) (pv 4) (nomark _)) (pw_and (pt_val (C8.pe_c c_law_has hr (by decide) rfl (pa_cons (pe_ix ix_any (pv 0) (pv 1) (fun _ _ => rfl)) (pa_cons (pv 3) pa_nil)))) (pw_and1 (pt_val (C8.pe_c c_law_has hr (by decide) rfl (pa_cons (pe_ix ix_any (pv 0) (pv 1) (fun _ _ => rfl)) (pa_cons (pv 4) pa_nil)))))))) (pss_one (ps_asg (pe_op op_xorT (pe_ix ix_list (pv 2) (pv 3) (fun _ _ => rfl)) (pe_op op_shlT pe_int (pv 4))) (pg_sub (pv 2) (pv 3) set_list))) pss_nil)))))
      (pss_one (ps_ret (pv 2))))), ?_⟩
  change tSeq _ _ _ [some (V.ref p), some (nV a), none, none, none] H
  walk_at "go"
  refine hp.lst fun l nl => ?_
  obtain ⟨s1, hl⟩ := layL nl (c.map nV)
  walk_at "go"
  refine (hp.s s1).len ?_
  rw [hg.1]
  refine w_r1 (fun i σ' H' => ∃ v3 v4, σ' = [some (V.ref p), some (nV a), some (.ref l), v3, v4] ∧ Same H H' ∧ H' l = some (.lst ((prC c a n i (g c i)).map nV))) (by omega) ?_ ?_ ?_
  · exact ⟨none, none, rfl, s1, by rw [prC_zero hg.1]; exact hl⟩
  · rintro i σ' H' hi ⟨v3, v4, rfl, s2, el⟩
    walk_at "go"
    refine (hp.s s2).len ?_
    rw [hg.1]
    refine w_r1 (fun j σ' H' => ∃ v4, σ' = [some (V.ref p), some (nV a), some (.ref l), some (nV i), v4] ∧ Same H H' ∧ H' l = some (.lst ((prC c a n i (prJ c a i j)).map nV))) (by omega) ?_ ?_ ?_
    · exact ⟨_, rfl, s2, el⟩
    · rintro j σ' H1 hj ⟨v4, rfl, s5, el⟩
      have stay : ¬ (i ≠ j ∧ (g c a).testBit i = true ∧ (g c a).testBit j = true) → ∃ v4', [some (V.ref p), some (nV a), some (V.ref l), some (nV i), some (nV j)] = [some (V.ref p), some (nV a), some (.ref l), some (nV i), v4'] ∧ Same H H1 ∧ H1 l = some (.lst ((prC c a n i (prJ c a i (j + 1))).map nV)) := fun hh => ⟨_, rfl, s5, by rw [prJ, if_neg hh]; exact el⟩
      walk_at "go"
      by_cases hij : i = j
      · subst hij
        rw [show (!decide (nV i = nV i)) = false by simp]
        refine iteF ?_
        refine iteF ?_
        exact stay (fun z => z.1 rfl)
      rw [show (!decide (nV i = nV j)) = true by rw [decide_eq_false (fun e => hij (by have := V.int.inj e; omega))]; rfl]
      refine iteT ?_
      walk_at "go"
      refine (hp.s s5).ix (by rw [hg.1]; exact ha) ?_
      walk_at "go"
      refine ⟨_, _, rfl, ?_⟩
      walk_at "go"
      cases h1 : (g c a).testBit i with
      | false =>
        refine iteF ?_
        refine iteF ?_
        exact stay (fun z => by rw [h1] at z; exact absurd z.2.1 (by decide))
      | true =>
        refine iteT ?_
        walk_at "go"
        refine (hp.s s5).ix (by rw [hg.1]; exact ha) ?_
        walk_at "go"
        refine ⟨_, _, rfl, ?_⟩
        walk_at "go"
        cases h2 : (g c a).testBit j with
        | false =>
          refine iteF ?_
          exact stay (fun z => by rw [h2] at z; exact absurd z.2.2 (by decide))
        | true =>
          refine iteT ?_
          walk_at "go"
          refine r_ixL el (ns_at (by rw [prC_len]; exact hi)) ?_
          walk_at "go"
          refine r_shl (by omega) ?_
          walk_at "go"
          refine r_setL el (by rw [List.length_map, prC_len]; exact hi) ?_
          refine ⟨_, rfl, s5.chg nl, ?_⟩
          rw [upd_same, ← List.map_set, prC_set hi, prC_at hi, prJ, if_pos ⟨hij, h1, h2⟩]
    · rintro σ' H1 ⟨v4, rfl, s5, el⟩
      exact ⟨_, _, rfl, s5, by rw [← prC_next]; exact el⟩
  · rintro σ' H' ⟨v3, v4, rfl, s2, el⟩
    rw [prC_end hg ha] at el
    walk_at "go"
    exact k _ _ s2 ⟨l, rfl, el⟩
end
end K81
end

section
open PySem PySem.Spec PyProof.Rows L2

namespace K81
local macro_rules | `(tactic| walk_at "s1") => `(tactic| first
  | with_reducible refine r_seq ?_
  | with_reducible refine r_asg ?_
  | with_reducible refine r_ret ?_
  | with_reducible refine r_if ?_
  | with_reducible refine r_app ?_
  | with_reducible refine r_drop ?_
  | with_reducible refine r_asgS ?_
  | with_reducible refine r_op ?_
  | with_reducible refine r_c ?_
  | ((with_reducible refine' r_var ?hv ?_); (case hv => exact rfl))
  | with_reducible refine r_cb ?_
  | with_reducible refine r_cons ?_
  | with_reducible refine r_nil ?_
  | with_reducible refine r_test ?_
  | with_reducible refine r_tB ?_
  | with_reducible refine r_not ?_
  | with_reducible refine r_and ?_
  | with_reducible refine r_or ?_
  | with_reducible refine r_call ?_
  | with_reducible refine r_tup ?_
  | with_reducible refine r_for1 ?_
  | with_reducible refine r_for2 ?_
  | with_reducible refine r_forT ?_
  | with_reducible refine r_forL ?_
  | with_reducible refine r_lc1 ?_
  | with_reducible refine r_lcT ?_
  | with_reducible refine r_lcL ?_
  | with_reducible refine r_lcE ?_
  | with_reducible refine r_lst ?_
  | with_reducible refine r_yes ?_
  | with_reducible refine r_next ?_
  | with_reducible refine r_nat ?_
  | with_reducible refine r_nat1 ?_
  | with_reducible refine r_i0 ?_
  | with_reducible refine r_int1 ?_
  | ((with_reducible refine' r_eq ?hs ?_); (case hs => exact rfl))
  | ((with_reducible refine' r_ne ?hs ?_); (case hs => exact rfl))
  | with_reducible refine r_bitT ?_
  | with_reducible refine r_tfld ?_
  | with_reducible refine r_tsfld ?_
  | with_reducible refine r_make ?_
  | with_reducible refine r_callK ?_
  | with_reducible refine r_gN ?_
  | with_reducible refine r_din ?_
  | with_reducible refine r_dnin ?_
  | with_reducible refine r_dget ?_
  | with_reducible refine r_dput ?_
  | ((with_reducible refine' r_aug ?hv ?_); (case hv => exact rfl))
  | with_reducible refine r_bl ?_)
local macro_rules | `(tactic| walk_at "go") => `(tactic| repeat walk_at "s1")

section
variable {P : Program} {w : World} {K : PySem.W.Frag} {mg : Str → Option Value} {base : Heap} {CN CR : Addr}
def sp_law_orders (K : PySem.W.Frag) : Sp := fun vs H Q _ => ∃ n : Nat, vs = [nV n] ∧ n ≤ 5 ∧ Res H Q fun v H' => LstOf IT H' v (orders n)
theorem c_law_orders (B : Bi mg) (D : DB K mg "_law_orders" s_law_orders ["_law_many"]) : C8.Cal P w K mg base 1 "_law_orders" (sp_law_orders K) [] := by
  obtain ⟨f, fd, F, b⟩ := D.ex
  have nd := sc_law_orders.nd
  refine C8.cal0 F b .nil sc_law_orders (fun vs H Q E h => by obtain ⟨n, rfl, _⟩ := h; rfl) fun cdv A outer s H vs Q E hr h => ?_
  obtain ⟨n, rfl, hn, k⟩ := h
  refine ⟨(tSeq (tAsg (tLst (tCons (tTup tNil) tNil)) (gName 1))
      (tSeq (tFor (iRng1 (tCons (tVar 0) tNil)) (gName 2) (tSeq (tAsg (tLst tNil) (gName 3))
        (tSeq (tFor (iList K (tCB (rListOf K) (tCons (tVar 1) tNil))) (gName 4) (tFor (iRng1 (tCons (tVar 0) tNil)) (gName 5) (tIfS (tTest (tOp (rIn K true) (tVar 5) (tVar 4))) (tDrop (tBM K "list" rAppend (tVar 3) (tCons (tOp (rCatA K) (tVar 4) (tTup (tCons (tVar 5) tNil))) tNil))) tNext)))
        (tAsg (tVar 3) (gName 1)))))
      (tRet (tVar 1)))),
      (pss_cons (ps_set (i := 1) nd rfl (by first | exact Or.inl rfl | exact Or.inr rfl) (pe_lst (pa_cons (pe_tup pa_nil) pa_nil)))
      (pss_cons (ps_for PassesOwn.never rfl (pi_range1 (by rfl) B.range (pa_cons (pv 0) pa_nil)) (pg_name (i := 2) nd rfl (by first | exact Or.inl rfl | exact Or.inr rfl)) (pss_cons (ps_set (i := 3) nd rfl (by first | exact Or.inl rfl | exact Or.inr rfl) (pe_lst pa_nil))
        (pss_cons (ps_for PassesOwn.never rfl (pi_list (pe_callTy call_list_of (by rfl) B.list (by decide +kernel) (pa_cons (pv 1) pa_nil))) (pg_name (i := 4) nd rfl (by first | exact Or.inl rfl | exact Or.inr rfl)) (pss_one (ps_for PassesOwn.never rfl (pi_range1 (by rfl) B.range (pa_cons (pv 0) pa_nil)) (pg_name (i := 5) nd rfl (by first | exact Or.inl rfl | exact Or.inr rfl)) (pss_one (ps_if (pt_cmpR op_notIn_seq (pv 5) (pv 4) rfl) (pss_one (ps_expr (pe_bm PySem.F.plainAttrs_list PySem.F.slot_list_append PySem.F.type_list_append mt_append (pv 3) (pa_cons (pe_op op_catA (pv 4) (pe_tup (pa_cons (pv 5) pa_nil))) pa_nil)))) pss_nil)))))
        (pss_one (ps_set (i := 1) nd rfl (by first | exact Or.inl rfl | exact Or.inr rfl) (pv 3))))))
      (pss_one (ps_ret (pv 1))))), ?_⟩
  change tSeq _ _ _ [some (nV n), none, none, none, none, none] H
  walk_at "go"
  refine ⟨Nat.zero_le _, fun e ne => ?_⟩
  obtain ⟨s0, he⟩ := layT ne []
  walk_at "go"
  refine ⟨by show 1 ≤ sizeLine; decide, fun l nl => ?_⟩
  obtain ⟨s1, hl⟩ := layL nl [V.ref e]
  walk_at "go"
  refine w_r1 (n := n) (fun t σ' H' => ∃ l v2 v3 v4 v5 xs, σ' = [some (nV n), some (V.ref l), v2, v3, v4, v5] ∧ Same H H' ∧ H' l = some (.lst xs) ∧ Paired (IT H') xs (ordK n t)) (by omega) ?_ ?_ ?_
  · exact ⟨l, _, _, _, _, _, rfl, s0.trans s1, hl, .cons ⟨e, rfl, s1 _ _ he⟩ .nil⟩
  · rintro t σ' H1 ht ⟨l, v2, v3, v4, v5, xs, rfl, s2, el, px⟩
    have hxl : xs.length = (ordK n t).length := Paired.length px
    have hfew := ordK_few (n := n) (j := t) hn (by omega)
    walk_at "go"
    refine ⟨Nat.zero_le _, fun L nL => ?_⟩
    obtain ⟨s3, eL⟩ := layL nL []
    walk_at "go"
    refine r_listOf (s3 _ _ el) fun l3 nl3 => ?_
    obtain ⟨s4, el3⟩ := layL nl3 xs
    have s34 := s3.trans s4
    refine w_l (fun i σ' H' => ∃ v4 v5 acc, σ' = [some (nV n), some (V.ref l), some (nV t), some (V.ref L), v4, v5] ∧ Same H1 H' ∧ H' l3 = some (.lst xs) ∧ H' L = some (.lst acc) ∧ Paired (IT H') acc (ordsTo n (ordK n t) i)) el3 ?_ ?_ ?_ ?_
    · exact ⟨_, _, [], rfl, s34, el3, s4 _ _ eL, .nil⟩
    · rintro i σ' H' _ ⟨_, _, _, rfl, _, h, _⟩
      exact h
    · rintro i x σ' H2 hx ⟨v4, v5, acc, rfl, s5, e3, eA, pa⟩
      have hi' : i < (ordK n t).length := by
        have := (List.getElem?_eq_some_iff.mp hx).1
        omega
      obtain ⟨x', hx', a, rfl, hax⟩ := K81.Paired.get px (List.getElem?_eq_getElem hi')
      rw [hx] at hx'
      cases hx'
      have hlen := (ordK_ok n t _ (List.getElem_mem hi')).1
      rw [ordsTo_succ (List.getElem?_eq_getElem hi')]
      generalize (ordK n t)[i] = o at *
      walk_at "go"
      refine w_r1 (n := n) (fun j σ' H' => ∃ v5 acc, σ' = [some (nV n), some (V.ref l), some (nV t), some (V.ref L), some (V.ref a), v5] ∧ Same H1 H' ∧ H' l3 = some (.lst xs) ∧ H' L = some (.lst acc) ∧ Paired (IT H') acc (ordsTo n (ordK n t) i ++ ordTo o j)) (by omega) ?_ ?_ ?_
      · exact ⟨_, acc, rfl, s5, e3, eA, by show Paired _ acc (_ ++ []); rw [List.append_nil]; exact pa⟩
      · rintro j σ' H3 hj ⟨v5, acc, rfl, s6, e3, eA, pa⟩
        have hax := s6 _ _ hax
        walk_at "go"
        refine r_niT hax ?_
        walk_at "go"
        by_cases hm : j ∈ o
        · rw [decide_eq_true hm]
          refine iteF ?_
          exact ⟨_, acc, rfl, s6, e3, eA, by rw [ordTo_no hm]; exact pa⟩
        · rw [decide_eq_false hm]
          refine iteT ?_
          have hz : acc.length < 100000 := by
            have h1 := Paired.length pa
            have h2 := ordsTo_len n (ordK n t) i
            have h3 := ordTo_len o j
            have h4 : i * n ≤ 3125 * 5 := Nat.mul_le_mul (by omega) hn
            rw [h1, List.length_append]
            omega
          walk_at "go"
          refine r_tyL eA ?_
          walk_at "go"
          refine ⟨by show 1 ≤ sizeLine; decide, fun T nT => ?_⟩
          obtain ⟨s7, eT⟩ := layT nT [nV j]
          refine r_catA (s7 _ _ hax) eT (by rw [List.length_map, hlen]; omega) fun z H4 s8 ez => ?_
          walk_at "go"
          refine r_append (s8 _ _ (s7 _ _ eA)) hz ?_
          have t9 := TSame.lst (o := .lst (acc ++ [V.ref z])) (s8 _ _ (s7 _ _ eA))
          have hne : l3 ≠ L := by rintro rfl; rw [eL] at nl3; cases nl3
          refine ⟨_, _, rfl, ((s6.trans s7).trans s8).chg nL, ?_, upd_same, ?_⟩
          · rw [upd_ne hne]
            exact s8 _ _ (s7 _ _ e3)
          · rw [ordTo_yes hm, ← List.append_assoc]
            refine Paired.snoc (it_t (s7.tup.trans (s8.tup.trans t9)) pa) ⟨z, rfl, ?_⟩
            rw [t9 _ _ ez, List.map_append]
            rfl
      · rintro σ' H3 ⟨v5, acc, rfl, s6, e3, eA, pa⟩
        exact ⟨_, _, acc, rfl, s6, e3, eA, pa⟩
    · rintro σ' H2 ⟨v4, v5, acc, rfl, s5, e3, eA, pa⟩
      rw [hxl, ordsTo_all] at pa
      walk_at "go"
      exact ⟨L, _, _, _, _, acc, rfl, s2.trans s5, eA, pa⟩
  · rintro σ' H1 ⟨l, v2, v3, v4, v5, xs, rfl, s2, el, px⟩
    walk_at "go"
    exact k _ _ s2 ⟨l, xs, rfl, el, px⟩
theorem sum_cast : ∀ ns : List Nat, (ns.map (fun x : Nat => (x : Int))).sum = ((ns.sum : Nat) : Int)
  | [] => rfl
  | a :: r => by
    rw [List.map_cons, List.sum_cons, List.sum_cons, sum_cast r, Int.natCast_add]
def sp_law_moved (K : PySem.W.Frag) : Sp := fun vs H Q _ => ∃ (p q : Addr) (c : Core) (o : List Nat) (n : Nat), vs = [.ref p, .ref q] ∧ H p = some (.lst (c.map nV)) ∧ H q = some (.tup (o.map nV)) ∧ Good n c ∧ IsOrd n o ∧ n ≤ 10 ∧ Res H Q fun v H' => IL H' v (moved n c o)
theorem c_law_moved (B : Bi mg) (c_law_has : C8.Cal P w K mg base 1 "_law_has" (sp_law_has K) []) (D : DB K mg "_law_moved" s_law_moved ["_law_masks_here", "_law_order"]) : C8.Cal P w K mg base 2 "_law_moved" (sp_law_moved K) [] := by
  obtain ⟨f, fd, F, b⟩ := D.ex
  have nd := sc_law_moved.nd
  refine C8.cal0 F b .nil sc_law_moved (fun vs H Q E h => by obtain ⟨p, q, c, o, n, rfl, _⟩ := h; rfl) fun cdv A outer s H vs Q E hr h => ?_
  obtain ⟨p, q, c, o, n, rfl, hp, hq, hg, ho, hn, k⟩ := h
  refine ⟨(tSeq (tAsg (tLc (iList K (tVar 0)) (gName 4) tYes (tC (.int 0)) [4]) (gName 2))
      (tSeq (tFor (iRng1 (tCons (tCB (rLenS K) (tCons (tVar 0) tNil)) tNil)) (gName 3) (tAsg (tCB (rSum K) (tCons (tLc (iRng1 (tCons (tCB (rLenS K) (tCons (tVar 0) tNil)) tNil)) (gName 5) (tB (tCall (sp_law_has K) [] C8.E0 (tCons (tOp (rIxL K) (tVar 0) (tVar 3)) (tCons (tVar 5) tNil)))) (tOp rShlT (tC (.int 1)) (tOp (rIxT K) (tVar 1) (tVar 5))) [5]) tNil)) (gSub (tVar 2) (tOp (rIxT K) (tVar 1) (tVar 3)) rSetL)))
      (tRet (tVar 2)))),
      (pss_cons (ps_setLc (i := 2) (own := [("_law_mask", 4)]) (g := (gName 4)) (tt := tYes) (te := (tC (.int 0))) rfl nd rfl rfl (sw_true rfl rfl rfl (by decide +kernel)) (pi_list (pv 0)) (blkOk_by (N := ["_law_masks_here", "_law_order", "_law_after", "_law_k", "_law_mask", "_law_j"]) (sc := C8.fnScope s_law_moved) (own := [("_law_mask", 4)]) (by decide +kernel)) (fun _ _ _ _ _ => (pg_name (i := 4) nd rfl (by first | exact Or.inl rfl | exact Or.inr rfl))) (fun _ _ _ _ _ => pts_nil) (fun _ _ _ _ _ => pe_int))
      (pss_cons (ps_for PassesOwn.never rfl (pi_range1 (by rfl) B.range (pa_cons (pe_callB call_len_seq (by rfl) B.len PySem.boot_len (pa_cons (pv 0) pa_nil)) pa_nil)) (pg_name (i := 3) nd rfl (by first | exact Or.inl rfl | exact Or.inr rfl)) (pss_one (ps_asg (pe_callB (cr_sum rfl) (by rfl) B.sum (by decide +kernel) (pa_cons (pe_lc (own := [("_law_j", 5)]) (g := (gName 5)) (tt := (tB (tCall (sp_law_has K) [] C8.E0 (tCons (tOp (rIxL K) (tVar 0) (tVar 3)) (tCons (tVar 5) tNil))))) (te := (tOp rShlT (tC (.int 1)) (tOp (rIxT K) (tVar 1) (tVar 5)))) rfl nd (pi_range1 (by rfl) B.range (pa_cons (pe_callB call_len_seq (by rfl) B.len PySem.boot_len (pa_cons (pv 0) pa_nil)) pa_nil)) (blkOk_by (N := ["_law_masks_here", "_law_order", "_law_after", "_law_k", "_law_mask", "_law_j"]) (sc := C8.fnScope s_law_moved) (own := [("_law_j", 5)]) (by decide +kernel)) (fun _ _ _ _ _ => (pg_name (i := 5) nd rfl (by first | exact Or.inl rfl | exact Or.inr rfl))) (fun _ _ _ _ _ => (pts_one (pt_val (C8.pe_c c_law_has hr (by decide) rfl (pa_cons (pe_ix ix_list (pv 0) (pv 3) (fun _ _ => rfl)) (pa_cons (pv 5) pa_nil)))))) (fun _ _ _ _ _ => (pe_op op_shlT pe_int (pe_ix ix_tup (pv 1) (pv 5) (fun _ _ => rfl))))) pa_nil)) (pg_sub (pv 2) (pe_ix ix_tup (pv 1) (pv 3) (fun _ _ => rfl)) set_list))))
      (pss_one (ps_ret (pv 2))))), ?_⟩
  change tSeq _ _ _ [some (V.ref p), some (V.ref q), none, none, none, none] H
  walk_at "go"
  refine c_l (xs := c.map nV) (fun i acc _ => acc = List.replicate i (nV 0)) (fun _ _ _ _ _ e => e) hp rfl (fun D acc i x H' hD hx hi s e z r => ?_) (fun l H' acc nl s1 hl _ ea => ?_)
  · refine ⟨rfl, ?_⟩
    walk_at "go"
    refine iteT ?_
    walk_at "go"
    refine lc_yes (fun _ _ _ _ _ e => e) hD s e z ?_ ?_
    · rw [List.length_map, hg.1] at hi
      omega
    · rw [r, List.replicate_succ']
      rfl
  subst ea
  rw [List.length_map, hg.1] at hl
  have e0 : List.replicate n (nV 0) = (mvK c o n 0).map nV := by
    rw [mvK, List.map_replicate]
  rw [e0] at hl
  walk_at "go"
  refine r_lenL (s1 _ _ hp) ?_
  rw [List.length_map, hg.1]
  refine w_r1 (fun i σ' H' => ∃ v3 v4 v5, σ' = [some (V.ref p), some (V.ref q), some (V.ref l), v3, v4, v5] ∧ Same H H' ∧ H' l = some (.lst ((mvK c o n i).map nV))) (by omega) ?_ ?_ ?_
  · exact ⟨_, _, _, rfl, s1, hl⟩
  · rintro i σ' H1 hi ⟨v3, v4, v5, rfl, s2, el⟩
    walk_at "go"
    refine r_lenL (s2 _ _ hp) ?_
    rw [List.length_map, hg.1]
    refine c_r1 (fun j acc _ => ∃ ns : List Nat, acc = ns.map nV ∧ ns.sum = mvJ c o i j) (fun _ _ _ _ _ e => e) (by omega) ⟨[], rfl, rfl⟩ (fun D acc j H' hD hj s e z r => ?_) (fun L H' acc nL s3 eL _ ea => ?_)
    · obtain ⟨ns, rfl, hsum⟩ := r
      refine ⟨rfl, ?_⟩
      walk_at "go"
      refine r_ixL (s _ _ (s2 _ _ hp)) (ns_at (by rw [hg.1]; exact hi)) ?_
      walk_at "go"
      refine ⟨_, _, rfl, ?_⟩
      walk_at "go"
      have hgo : g o j < n := ho.get_lt hj
      cases hb : (g c i).testBit j with
      | false =>
        refine iteF ?_
        exact lc_no s e z ⟨ns, rfl, by rw [mvJ, if_neg (by rw [hb]; decide)]; exact hsum⟩
      | true =>
        refine iteT ?_
        walk_at "go"
        refine r_ixT (s _ _ (s2 _ _ hq)) (ns_at (by rw [ho.len]; exact hj)) ?_
        refine r_shl (by omega) ?_
        refine lc_yes (fun _ _ _ _ _ e => e) hD s e z (by omega) ⟨ns ++ [2 ^ g o j], by rw [List.map_append]; rfl, ?_⟩
        rw [List.sum_append, hsum, mvJ, if_pos hb]
        have hfree : (mvJ c o i j).testBit (g o j) = false := by
          cases hh : (mvJ c o i j).testBit (g o j) with
          | false => rfl
          | true =>
            obtain ⟨t, h1, h2, h3⟩ := (mvJ_bit c o i (g o j) j).mp hh
            have := ho.inj (show t < n by omega) hj h3
            omega
        rw [← add_bit hfree]
        simp
    · obtain ⟨ns, rfl, hsum⟩ := ea
      walk_at "go"
      have es : (ns.map nV) = (ns.map (fun x : Nat => (x : Int))).map V.int := by rw [List.map_map]; rfl
      refine ⟨L, ns.map (fun x : Nat => (x : Int)), rfl, SqL.of (eL.trans (by rw [es])), ?_⟩
      have ei : (ns.map (fun x : Nat => (x : Int))).sum = ((mvJ c o i n : Nat) : Int) := by rw [sum_cast, hsum]
      rw [ei]
      walk_at "go"
      refine r_ixT (s3 _ _ (s2 _ _ hq)) (ns_at (by rw [ho.len]; exact hi)) ?_
      refine r_setL (s3 _ _ el) (by rw [List.length_map, mvK_len]; exact ho.get_lt hi) ?_
      refine ⟨_, _, _, rfl, (s2.trans s3).chg nl, ?_⟩
      rw [upd_same, ← List.map_set]
      rfl
  · rintro σ' H1 ⟨v3, v4, v5, rfl, s2, el⟩
    walk_at "go"
    exact k _ _ s2 ⟨l, rfl, el⟩
end
end K81
end

section
open PySem PySem.Spec PyProof.Rows L2

namespace K81
local macro_rules | `(tactic| walk_at "s1") => `(tactic| first
  | with_reducible refine r_seq ?_
  | with_reducible refine r_asg ?_
  | with_reducible refine r_ret ?_
  | with_reducible refine r_if ?_
  | with_reducible refine r_app ?_
  | with_reducible refine r_drop ?_
  | with_reducible refine r_asgS ?_
  | with_reducible refine r_op ?_
  | with_reducible refine r_c ?_
  | ((with_reducible refine' r_var ?hv ?_); (case hv => exact rfl))
  | with_reducible refine r_cb ?_
  | with_reducible refine r_cons ?_
  | with_reducible refine r_nil ?_
  | with_reducible refine r_test ?_
  | with_reducible refine r_tB ?_
  | with_reducible refine r_not ?_
  | with_reducible refine r_and ?_
  | with_reducible refine r_or ?_
  | with_reducible refine r_call ?_
  | with_reducible refine r_tup ?_
  | with_reducible refine r_for1 ?_
  | with_reducible refine r_for2 ?_
  | with_reducible refine r_forT ?_
  | with_reducible refine r_forL ?_
  | with_reducible refine r_lc1 ?_
  | with_reducible refine r_lcT ?_
  | with_reducible refine r_lcL ?_
  | with_reducible refine r_lcE ?_
  | with_reducible refine r_lst ?_
  | with_reducible refine r_yes ?_
  | with_reducible refine r_next ?_
  | with_reducible refine r_nat ?_
  | with_reducible refine r_nat1 ?_
  | with_reducible refine r_i0 ?_
  | with_reducible refine r_int1 ?_
  | ((with_reducible refine' r_eq ?hs ?_); (case hs => exact rfl))
  | ((with_reducible refine' r_ne ?hs ?_); (case hs => exact rfl))
  | with_reducible refine r_bitT ?_
  | with_reducible refine r_tfld ?_
  | with_reducible refine r_tsfld ?_
  | with_reducible refine r_make ?_
  | with_reducible refine r_callK ?_
  | with_reducible refine r_gN ?_
  | with_reducible refine r_din ?_
  | with_reducible refine r_dnin ?_
  | with_reducible refine r_dget ?_
  | with_reducible refine r_dput ?_
  | ((with_reducible refine' r_aug ?hv ?_); (case hv => exact rfl))
  | with_reducible refine r_bl ?_)
local macro_rules | `(tactic| walk_at "go") => `(tactic| repeat walk_at "s1")

abbrev s_law_rows : Stmt := topS 44
theorem sc_law_rows : FnScope ["_law_masks_here", "_law_found", "_law_rows_here", "_law_known", "_law_at", "_law_k", "_law_after"] ["_law_masks_here"] (C8.fnScope s_law_rows) := C8.fnScope_by (by decide +kernel)

section
variable {P : Program} {w : World} {K : PySem.W.Frag} {mg : Str → Option Value} {base : Heap} {CN CR : Addr}
def RowsV (H : Hp) (v : V) (n : Nat) (c : Core) : Prop := ∃ a f r fs rs, v = .ref a ∧ H a = some (.lst [.ref f, .ref r]) ∧ H f = some (.lst fs) ∧ Paired (IT H) fs ((reach n c).map (·.1)) ∧ H r = some (.lst rs) ∧ Paired (IT H) rs ((reach n c).map (·.2))
theorem RowsV.s {H H' : Hp} {v : V} {n : Nat} {c : Core} (e : Same H H') (h : RowsV H v n c) : RowsV H' v n c := by
  obtain ⟨a, f, r, fs, rs, h1, h2, h3, h4, h5, h6⟩ := h
  exact ⟨a, f, r, fs, rs, h1, e _ _ h2, e _ _ h3, it_t e.tup h4, e _ _ h5, it_t e.tup h6⟩
def sp_law_rows (K : PySem.W.Frag) : Sp := fun vs H Q _ => ∃ (p : Addr) (c : Core) (n : Nat), vs = [.ref p] ∧ H p = some (.lst (c.map nV)) ∧ Good n c ∧ n ≤ 5 ∧ Res H Q fun v H' => RowsV H' v n c
theorem c_law_rows (B : Bi mg) (c_law_press : C8.Cal P w K mg base 2 "_law_press" (sp_law_press K) []) (D : DB K mg "_law_rows" s_law_rows ["_law_masks_here"]) : C8.Cal P w K mg base 3 "_law_rows" (sp_law_rows K) [] := by
  obtain ⟨f, fd, F, b⟩ := D.ex
  have nd := sc_law_rows.nd
  refine C8.cal0 F b .nil sc_law_rows (fun vs H Q E h => by obtain ⟨p, c, n, rfl, _⟩ := h; rfl) fun cdv A outer s H vs Q E hr h => ?_
  obtain ⟨p, c, n, rfl, hp, hg, hn, k⟩ := h
  refine ⟨(tSeq (tAsg (tLst (tCons (tCB (rTupOf K) (tCons (tVar 0) tNil)) tNil)) (gName 1))
      (tSeq (tAsg (tLst (tCons (tTup tNil) tNil)) (gName 2))
      (tSeq (tAsg (tDisp1T (tCB (rTupOf K) (tCons (tVar 0) tNil)) (tC (.bl true))) (gName 3))
      (tSeq (tFor (iRng1 (tCons (tC (.int 1000000)) tNil)) (gName 4) (tSeq (tIfS (tTest (tOp rGeI (tVar 4) (tCB (rLenS K) (tCons (tVar 1) tNil)))) tBreak tNext)
        (tFor (iRng1 (tCons (tCB (rLenS K) (tCons (tVar 0) tNil)) tNil)) (gName 5) (tSeq (tAsg (tCB (rTupOf K) (tCons (tCall (sp_law_press K) [] C8.E0 (tCons (tOp (rIxL K) (tVar 1) (tVar 4)) (tCons (tVar 5) tNil))) tNil)) (gName 6))
          (tIfS (tB (tDNotIn (tVar 6) (tVar 3))) (tSeq (sDPut (tVar 3) (tVar 6) (tC (.bl true)))
            (tSeq (tDrop (tBM K "list" rAppend (tVar 1) (tCons (tVar 6) tNil)))
            (tDrop (tBM K "list" rAppend (tVar 2) (tCons (tOp (rCatA K) (tOp (rIxL K) (tVar 2) (tVar 4)) (tTup (tCons (tVar 5) tNil))) tNil))))) tNext)))))
      (tRet (tLst (tCons (tVar 1) (tCons (tVar 2) tNil)))))))),
      (pss_cons (ps_set (i := 1) nd rfl (by first | exact Or.inl rfl | exact Or.inr rfl) (pe_lst (pa_cons (pe_callTy call_tuple_of (by rfl) B.tuple (by decide +kernel) (pa_cons (pv 0) pa_nil)) pa_nil)))
      (pss_cons (ps_set (i := 2) nd rfl (by first | exact Or.inl rfl | exact Or.inr rfl) (pe_lst (pa_cons (pe_tup pa_nil) pa_nil)))
      (pss_cons (ps_set (i := 3) nd rfl (by first | exact Or.inl rfl | exact Or.inr rfl) (pe_disp1T (hu_of hr) (pe_callTy call_tuple_of (by rfl) B.tuple (by decide +kernel) (pa_cons (pv 0) pa_nil)) pe_bl))
      (pss_cons (ps_for PassesOwn.never rfl (pi_range1 (by rfl) B.range (pa_cons pe_int pa_nil)) (pg_name (i := 4) nd rfl (by first | exact Or.inl rfl | exact Or.inr rfl)) (pss_cons (ps_if (pt_cmpR op_ge (pv 4) (pe_callB call_len_seq (by rfl) B.len PySem.boot_len (pa_cons (pv 1) pa_nil)) (nomark _)) (pss_one ps_break) pss_nil)
        (pss_one (ps_for PassesOwn.never rfl (pi_range1 (by rfl) B.range (pa_cons (pe_callB call_len_seq (by rfl) B.len PySem.boot_len (pa_cons (pv 0) pa_nil)) pa_nil)) (pg_name (i := 5) nd rfl (by first | exact Or.inl rfl | exact Or.inr rfl)) (pss_cons (ps_set (i := 6) nd rfl (by first | exact Or.inl rfl | exact Or.inr rfl) (pe_callTy call_tuple_of (by rfl) B.tuple (by decide +kernel) (pa_cons (C8.pe_c c_law_press hr (by decide) rfl (pa_cons (pe_ix ix_list (pv 1) (pv 4) (fun _ _ => rfl)) (pa_cons (pv 5) pa_nil))) pa_nil)))
          (pss_one (ps_if (pt_cmp (pc_dnotin (hu_of hr) (pv 6) (pv 3)) rfl) (pss_cons (ps_dput (hu_of hr) (pv 3) (pv 6) pe_bl rfl)
            (pss_cons (ps_expr (pe_bm PySem.F.plainAttrs_list PySem.F.slot_list_append PySem.F.type_list_append mt_append (pv 1) (pa_cons (pv 6) pa_nil)))
            (pss_one (ps_expr (pe_bm PySem.F.plainAttrs_list PySem.F.slot_list_append PySem.F.type_list_append mt_append (pv 2) (pa_cons (pe_op op_catA (pe_ix ix_list (pv 2) (pv 4) (fun _ _ => rfl)) (pe_tup (pa_cons (pv 5) pa_nil))) pa_nil)))))) pss_nil)))))))
      (pss_one (ps_ret (pe_lst (pa_cons (pv 1) (pa_cons (pv 2) pa_nil))))))))), ?_⟩
  change tSeq _ _ _ [some (V.ref p), none, none, none, none, none, none] H
  walk_at "go"
  refine r_tupOf hp fun t1 nt1 => ?_
  obtain ⟨s1, et1⟩ := layT nt1 (c.map nV)
  walk_at "go"
  refine ⟨by show 1 ≤ sizeLine; decide, fun l nl => ?_⟩
  obtain ⟨s2, el⟩ := layL nl [V.ref t1]
  walk_at "go"
  refine ⟨Nat.zero_le _, fun e ne => ?_⟩
  obtain ⟨s3, ee⟩ := layT ne []
  walk_at "go"
  refine ⟨by show 1 ≤ sizeLine; decide, fun r nr => ?_⟩
  obtain ⟨s4, er⟩ := layL nr [V.ref e]
  have hrl : r ≠ l := by rintro rfl; rw [s3 _ _ el] at nr; cases nr
  have a1 := s1
  have a2 := a1.trans s2
  have a3 := a2.trans s3
  have a4 := a3.trans s4
  have nlH : H l = none := by
    cases hh : H l with
    | none => rfl
    | some o => rw [a1 _ _ hh] at nl; cases nl
  have nrH : H r = none := by
    cases hh : H r with
    | none => rfl
    | some o => rw [a3 _ _ hh] at nr; cases nr
  have el4 := s4 _ _ (s3 _ _ el)
  have et4 := s4 _ _ (s3 _ _ (s2 _ _ et1))
  have ee4 := s4 _ _ ee
  generalize hH4 : upd (upd (upd (upd H t1 (.tup (c.map nV))) l (.lst [V.ref t1])) e (.tup [])) r (.lst [V.ref e]) = H4 at *
  walk_at "go"
  refine r_disp1T fun d nd4 => ?_
  have hdl : d ≠ l := by rintro rfl; rw [el4] at nd4; cases nd4
  have hdr : d ≠ r := by rintro rfl; rw [er] at nd4; cases nd4
  have ndH : H d = none := by
    cases hh : H d with
    | none => rfl
    | some o => rw [a4 _ _ hh] at nd4; cases nd4
  have s5 : Same H4 (upd H4 d (.dT [])) := Same.lay nd4
  have ed5 : upd H4 d (.dT []) d = some (.dT []) := upd_same
  walk_at "go"
  refine r_tupOf ((a4.trans s5) _ _ hp) fun t2 nt2 => ?_
  obtain ⟨s6, et2⟩ := layT nt2 (c.map nV)
  walk_at "go"
  refine ⟨s6 _ _ ed5, t2, ck c, rfl, et2.trans (by rw [ck_v]), ?_⟩
  walk_at "go"
  have s7 : Same H4 (upd (upd (upd H4 d (.dT [])) t2 (.tup (c.map nV))) d (.dT [(ck c, .bl true)])) := (s5.trans s6).chg nd4
  have ed7 : upd (upd (upd H4 d (.dT [])) t2 (.tup (c.map nV))) d (.dT [(ck c, .bl true)]) d = some (.dT (dC [c] [.bl true])) := upd_same
  have a7 := a4.trans s7
  refine w_r1 (n := 1000000) (fun i σ' H' => ∃ v4 v5 v6 fs rs vs, σ' = [some (V.ref p), some (V.ref l), some (V.ref r), some (V.ref d), v4, v5, v6] ∧ i ≤ (stage n c i).length ∧ Same H H' ∧ H' l = some (.lst fs) ∧ Paired (IT H') fs ((stage n c i).map (·.1)) ∧ H' r = some (.lst rs) ∧ Paired (IT H') rs ((stage n c i).map (·.2)) ∧ H' d = some (.dT (dC ((stage n c i).map (·.1)) vs)) ∧ vs.length = ((stage n c i).map (·.1)).length) (by omega) ?_ ?_ ?_
  · exact ⟨_, _, _, [V.ref t1], [V.ref e], [V.bl true], rfl, Nat.zero_le _, a7, s7 _ _ el4, .cons ⟨t1, rfl, s7 _ _ et4⟩ .nil, s7 _ _ er, .cons ⟨e, rfl, s7 _ _ ee4⟩ .nil, ed7, rfl⟩
  · rintro k' σ' H1 hk1 ⟨v4, v5, v6, fs, rs, vs, rfl, hk0, s8, el8, pf, er8, pr, ed8, hvl⟩
    have hok := stage_ok hg k'
    have hfew := hok.few hn
    have hfl := Paired.length pf
    rw [List.length_map] at hfl
    walk_at "go"
    refine r_lenL el8 ?_
    walk_at "go"
    refine ite2 (fun hb => ?_) (fun hb => ?_)
    · have hk : (stage n c k').length ≤ k' := by
        have := of_decide_eq_true hb
        omega
      refine r_brk ?_
      walk_at "go"
      refine ⟨by show 2 ≤ sizeLine; decide, fun z nz => ?_⟩
      obtain ⟨s9, ez⟩ := layL nz [V.ref l, V.ref r]
      rw [reach_end hn hg (by omega) hk] at pf pr
      exact k _ _ (s8.trans s9) ⟨z, l, r, fs, rs, rfl, ez, s9 _ _ el8, it_t s9.tup pf, s9 _ _ er8, it_t s9.tup pr⟩
    · have hk : k' < (stage n c k').length := by
        have := of_decide_eq_false (Bool.eq_false_iff.mpr hb)
        omega
      walk_at "go"
      refine r_lenL (s8 _ _ hp) ?_
      rw [List.length_map, hg.1]
      refine w_r1 (fun j σ' H' => ∃ v5 v6 fs rs vs, σ' = [some (V.ref p), some (V.ref l), some (V.ref r), some (V.ref d), some (nV k'), v5, v6] ∧ Same H H' ∧ H' l = some (.lst fs) ∧ Paired (IT H') fs ((inner (stage n c k') (hd (stage n c k') k').1 (hd (stage n c k') k').2 j).map (·.1)) ∧
        H' r = some (.lst rs) ∧ Paired (IT H') rs ((inner (stage n c k') (hd (stage n c k') k').1 (hd (stage n c k') k').2 j).map (·.2)) ∧ H' d = some (.dT (dC ((inner (stage n c k') (hd (stage n c k') k').1 (hd (stage n c k') k').2 j).map (·.1)) vs)) ∧ vs.length = ((inner (stage n c k') (hd (stage n c k') k').1 (hd (stage n c k') k').2 j).map (·.1)).length) (by omega) ?_ ?_ ?_
      · exact ⟨_, _, fs, rs, vs, rfl, s8, el8, pf, er8, pr, ed8, hvl⟩
      · rintro j σ' H2 hj ⟨v5, v6, fs, rs, vs, rfl, s9, el9, pf, er9, pr, ed9, hvl⟩
        have hT := inner_ok hn hg hk (Nat.le_of_lt hj)
        have hTf := hT.few hn
        have hpre := inner_pre (stage n c k') (hd (stage n c k') k').1 (hd (stage n c k') k').2 j
        have hat := pre_at hpre hk
        have hhg := hok.good _ (hd_mem hk)
        have hget : (inner (stage n c k') (hd (stage n c k') k').1 (hd (stage n c k') k').2 j)[k']? = some (hd (stage n c k') k') := by
          obtain ⟨U, hU⟩ := hpre
          rw [← hU, List.getElem?_append_left hk, hd_get hk]
        have hat2 : ((inner (stage n c k') (hd (stage n c k') k').1 (hd (stage n c k') k').2 j).map (·.2))[k']? = some (hd (stage n c k') k').2 := by
          rw [List.getElem?_map, hget]
          rfl
        rw [inner_succ]
        generalize hTe : inner (stage n c k') (hd (stage n c k') k').1 (hd (stage n c k') k').2 j = T at *
        generalize hc1 : hd (stage n c k') k' = h1 at *
        have hfl := Paired.length pf
        have hrl2 := Paired.length pr
        rw [List.length_map] at hfl hrl2 hvl
        obtain ⟨x, hx, a, rfl, ha⟩ := K81.Paired.get pf hat
        obtain ⟨y, hy, ra, rfl, hra⟩ := K81.Paired.get pr hat2
        walk_at "go"
        refine r_ixL el9 hx ?_
        walk_at "go"
        refine ⟨a, h1.1, j, n, rfl, .inr ha, hhg, hj, by omega, fun v H3 s10 hv => ?_⟩
        obtain ⟨q0, rfl, hq0⟩ := hv
        walk_at "go"
        refine r_tupOf hq0 fun q nq => ?_
        obtain ⟨s11, hq⟩ := layT nq ((press h1.1 j).map nV)
        have s12 := s10.trans s11
        generalize upd H3 q (.tup ((press h1.1 j).map nV)) = H5 at *
        walk_at "go"
        by_cases hin : press h1.1 j ∈ T.map (·.1)
        · obtain ⟨i, u, e1, e2, e3⟩ := dC_yes (vs := vs) hT.nd (by rw [List.length_map]; exact hvl) hin
          refine ⟨d, _, rfl, g_yes (s12 _ _ ed9) hq hT.nd e1 e2, ?_⟩
          walk_at "go"
          refine iteF ?_
          refine ⟨_, _, fs, rs, vs, rfl, s9.trans s12, s12 _ _ el9, ?_⟩
          rw [visit, if_pos hin]
          exact ⟨it_t s12.tup pf, s12 _ _ er9, it_t s12.tup pr, s12 _ _ ed9, by rw [List.length_map]; exact hvl⟩
        · refine ⟨d, _, rfl, g_no (s12 _ _ ed9) hq hin, ?_⟩
          walk_at "go"
          refine iteT ?_
          walk_at "go"
          refine ⟨d, _, rfl, g_put (s12 _ _ ed9) hq hin (by rw [List.length_map]; exact hvl) (by rw [List.length_map]; omega), ?_⟩
          have el6 := (upd_ne (H := H5) (o := .dT (dC (T.map (·.1) ++ [press h1.1 j]) (vs ++ [V.bl true]))) hdl.symm).trans (s12 _ _ el9)
          have er6 := (upd_ne (H := H5) (o := .dT (dC (T.map (·.1) ++ [press h1.1 j]) (vs ++ [V.bl true]))) hdr.symm).trans (s12 _ _ er9)
          have ed6 : (upd H5 d (.dT (dC (T.map (·.1) ++ [press h1.1 j]) (vs ++ [V.bl true])))) d = some (.dT (dC (T.map (·.1) ++ [press h1.1 j]) (vs ++ [V.bl true]))) := upd_same
          have t6 : TSame H5 (upd H5 d (.dT (dC (T.map (·.1) ++ [press h1.1 j]) (vs ++ [V.bl true])))) := TSame.dT (s12 _ _ ed9)
          have b6 : Same H (upd H5 d (.dT (dC (T.map (·.1) ++ [press h1.1 j]) (vs ++ [V.bl true])))) := (s9.trans s12).chg ndH
          generalize upd H5 d (.dT (dC (T.map (·.1) ++ [press h1.1 j]) (vs ++ [V.bl true]))) = H6 at *
          walk_at "go"
          refine r_tyL el6 ?_
          walk_at "go"
          refine r_append el6 (by omega) ?_
          have el7 : upd H6 l (.lst (fs ++ [V.ref q])) l = some (.lst (fs ++ [V.ref q])) := upd_same
          have er7 := (upd_ne (H := H6) (o := .lst (fs ++ [V.ref q])) hrl).trans er6
          have ed7 := (upd_ne (H := H6) (o := .lst (fs ++ [V.ref q])) hdl).trans ed6
          have t7 : TSame H6 (upd H6 l (.lst (fs ++ [V.ref q]))) := TSame.lst el6
          have b7 : Same H (upd H6 l (.lst (fs ++ [V.ref q]))) := b6.chg nlH
          generalize upd H6 l (.lst (fs ++ [V.ref q])) = H7 at *
          have t57 := t6.trans t7
          walk_at "go"
          refine r_tyL er7 ?_
          walk_at "go"
          refine r_ixL er7 hy ?_
          walk_at "go"
          refine ⟨by show 1 ≤ sizeLine; decide, fun T1 nT1 => ?_⟩
          obtain ⟨s13, eT1⟩ := layT nT1 [nV j]
          have hrl3 := hT.len _ (List.mem_of_getElem? hget)
          refine r_catA (s13 _ _ (t57 _ _ (s12 _ _ hra))) eT1 (by rw [List.length_map]; omega) fun z H8 s14 ez => ?_
          have s15 := s13.trans s14
          walk_at "go"
          refine r_append (s15 _ _ er7) (by omega) ?_
          have t16 := TSame.lst (o := .lst (rs ++ [V.ref z])) (s15 _ _ er7)
          have tt := t57.trans (s15.tup.trans t16)
          refine ⟨_, _, fs ++ [V.ref q], rs ++ [V.ref z], vs ++ [V.bl true], rfl, (b7.trans s15).chg nrH, ?_, ?_⟩
          · rw [upd_ne hrl.symm]
            exact s15 _ _ el7
          rw [visit, if_neg hin, List.map_append, List.map_append]
          refine ⟨Paired.snoc (it_t (s12.tup.trans tt) pf) ⟨q, rfl, tt _ _ hq⟩, upd_same, Paired.snoc (it_t (s12.tup.trans tt) pr) ⟨z, rfl, ?_⟩, ?_, by simp [hvl]⟩
          · rw [t16 _ _ ez, List.map_append]
            rfl
          · rw [upd_ne hdr]
            exact s15 _ _ ed7
      · rintro σ' H2 ⟨v5, v6, fs, rs, vs, rfl, s9, el9, pf, er9, pr, ed9, hvl⟩
        rw [← stage_go hk] at pf pr ed9 hvl
        exact ⟨_, _, _, fs, rs, vs, rfl, stage_len_le hk0 hk, s9, el9, pf, er9, pr, ed9, hvl⟩
  · rintro σ' H1 ⟨v4, v5, v6, fs, rs, vs, rfl, hk0, _⟩
    exfalso
    have := (stage_ok hg 1000000).few hn
    omega
end
end K81
end

section
open PySem PySem.Spec PyProof.Rows L2

namespace K81
local macro_rules | `(tactic| walk_at "s1") => `(tactic| first
  | with_reducible refine r_seq ?_
  | with_reducible refine r_asg ?_
  | with_reducible refine r_ret ?_
  | with_reducible refine r_if ?_
  | with_reducible refine r_app ?_
  | with_reducible refine r_drop ?_
  | with_reducible refine r_asgS ?_
  | with_reducible refine r_op ?_
  | with_reducible refine r_c ?_
  | ((with_reducible refine' r_var ?hv ?_); (case hv => exact rfl))
  | with_reducible refine r_cb ?_
  | with_reducible refine r_cons ?_
  | with_reducible refine r_nil ?_
  | with_reducible refine r_test ?_
  | with_reducible refine r_tB ?_
  | with_reducible refine r_not ?_
  | with_reducible refine r_and ?_
  | with_reducible refine r_or ?_
  | with_reducible refine r_call ?_
  | with_reducible refine r_tup ?_
  | with_reducible refine r_for1 ?_
  | with_reducible refine r_for2 ?_
  | with_reducible refine r_forT ?_
  | with_reducible refine r_forL ?_
  | with_reducible refine r_lc1 ?_
  | with_reducible refine r_lcT ?_
  | with_reducible refine r_lcL ?_
  | with_reducible refine r_lcE ?_
  | with_reducible refine r_lst ?_
  | with_reducible refine r_yes ?_
  | with_reducible refine r_next ?_
  | with_reducible refine r_nat ?_
  | with_reducible refine r_nat1 ?_
  | with_reducible refine r_i0 ?_
  | with_reducible refine r_int1 ?_
  | ((with_reducible refine' r_eq ?hs ?_); (case hs => exact rfl))
  | ((with_reducible refine' r_ne ?hs ?_); (case hs => exact rfl))
  | with_reducible refine r_bitT ?_
  | with_reducible refine r_tfld ?_
  | with_reducible refine r_tsfld ?_
  | with_reducible refine r_make ?_
  | with_reducible refine r_callK ?_
  | with_reducible refine r_gN ?_
  | with_reducible refine r_din ?_
  | with_reducible refine r_dnin ?_
  | with_reducible refine r_dget ?_
  | with_reducible refine r_dput ?_
  | ((with_reducible refine' r_aug ?hv ?_); (case hv => exact rfl))
  | with_reducible refine r_bl ?_)
local macro_rules | `(tactic| walk_at "go") => `(tactic| repeat walk_at "s1")

abbrev s_law_due : Stmt := topS 48
theorem sc_law_due : FnScope ["_law_names_here", "_law_masks_here", "_law_others", "_law_second_here", "_law_reach", "_law_places", "_law_at", "_law_order", "_law_moved_here", "_law_pairs_here", "_law_k"] ["_law_names_here", "_law_masks_here", "_law_others", "_law_second_here"] (C8.fnScope s_law_due) := C8.fnScope_by (by decide +kernel)

section
variable {P : Program} {w : World} {K : PySem.W.Frag} {mg : Str → Option Value} {base : Heap} {CN CR : Addr}
def DueV (H : Hp) (v : V) : Option (List (Str × Str) × List Str) → Prop
  | none => v = .non
  | some r => ∃ x pp pr ts, v = .ref x ∧ H x = some (.tup [.ref pp, .ref pr]) ∧ H pp = some (.tup ts) ∧ Paired (PS2 H) ts r.1 ∧ H pr = some (.tup (r.2.map V.str))
theorem DueV.s {H H' : Hp} {v : V} {r : Option (List (Str × Str) × List Str)} (e : Same H H') (h : DueV H v r) : DueV H' v r := by
  cases r with
  | none => exact h
  | some r =>
    obtain ⟨x, pp, pr, ts, h1, h2, h3, h4, h5⟩ := h
    exact ⟨x, pp, pr, ts, h1, e _ _ h2, e _ _ h3, ps2_t e.tup h4, e _ _ h5⟩
def sp_law_due (K : PySem.W.Frag) : Sp := fun vs H Q _ => ∃ (a1 a2 a3 a4 : Addr) (ss tt : List Str) (c d : Core), vs = [.ref a1, .ref a2, .ref a3, .ref a4] ∧ H a1 = some (.lst (ss.map V.str)) ∧ H a2 = some (.lst (c.map nV)) ∧ H a3 = some (.lst (tt.map V.str)) ∧ H a4 = some (.lst (d.map nV)) ∧ NetP ss c ∧ NetP tt d ∧ Res H Q fun v H' => DueV H' v (ren ss c tt d)
theorem c_law_due (B : Bi mg) (c_law_rows : C8.Cal P w K mg base 3 "_law_rows" (sp_law_rows K) []) (c_law_orders : C8.Cal P w K mg base 1 "_law_orders" (sp_law_orders K) []) (c_law_moved : C8.Cal P w K mg base 2 "_law_moved" (sp_law_moved K) [])
    (D : DB K mg "_law_due" s_law_due ["_law_names_here", "_law_masks_here", "_law_others", "_law_second_here"]) : C8.Cal P w K mg base 4 "_law_due" (sp_law_due K) [] := by
  obtain ⟨f, fd, F, b⟩ := D.ex
  have nd := sc_law_due.nd
  refine C8.cal0 F b .nil sc_law_due (fun vs H Q E h => by obtain ⟨a1, a2, a3, a4, ss, tt, c, d, rfl, _⟩ := h; rfl) fun cdv A outer s H vs Q E hr h => ?_
  obtain ⟨a1, a2, a3, a4, ss, tt, c, d, rfl, h1, h2, h3, h4, N1, N2, k⟩ := h
  have five := N1.five
  refine ⟨(tSeq (tIfS (tTest (tOp rNe (tCB (rLenS K) (tCons (tVar 0) tNil)) (tCB (rLenS K) (tCons (tVar 2) tNil)))) (tRet (tC .non)) tNext)
      (tSeq (tAsg (tCall (sp_law_rows K) [] C8.E0 (tCons (tVar 1) tNil)) (gName 4))
      (tSeq (tAsg tDNewT (gName 5))
      (tSeq (tFor (iRng1 (tCons (tCB (rLenS K) (tCons (tOp (rIxL K) (tVar 4) (tC (.int 0))) tNil)) tNil)) (gName 6) (sDPut (tVar 5) (tOp (rIxL K) (tOp (rIxL K) (tVar 4) (tC (.int 0))) (tVar 6)) (tVar 6)))
      (tSeq (tFor (iList K (tCall (sp_law_orders K) [] C8.E0 (tCons (tCB (rLenS K) (tCons (tVar 0) tNil)) tNil))) (gName 7) (tSeq (tAsg (tCB (rTupOf K) (tCons (tCall (sp_law_moved K) [] C8.E0 (tCons (tVar 3) (tCons (tVar 7) tNil))) tNil)) (gName 8))
        (tIfS (tB (tDIn (tVar 8) (tVar 5))) (tSeq (tAsg (tCB (rTupOf K) (tCons (tLc (iRng1 (tCons (tCB (rLenS K) (tCons (tVar 2) tNil)) tNil)) (gName 10) tYes (tTup (tCons (tOp (rIxL K) (tVar 2) (tVar 10)) (tCons (tOp (rIxL K) (tVar 0) (tOp (rIxT K) (tVar 7) (tVar 10))) tNil))) [10]) tNil)) (gName 9))
          (tRet (tTup (tCons (tVar 9) (tCons (tCB (rTupOf K) (tCons (tLc (iTup K (tOp (rIxL K) (tOp (rIxL K) (tVar 4) (tC (.int 1))) (tDGet (tVar 5) (tVar 8)))) (gName 6) tYes (tOp (rIxL K) (tVar 0) (tVar 6)) [6]) tNil)) tNil))))) tNext)))
      (tRet (tC .non))))))),
      (pss_cons (ps_if (pt_cmpR op_ne (pe_callB call_len_seq (by rfl) B.len PySem.boot_len (pa_cons (pv 0) pa_nil)) (pe_callB call_len_seq (by rfl) B.len PySem.boot_len (pa_cons (pv 2) pa_nil)) (nomark _)) (pss_one (ps_ret pe_non)) pss_nil)
      (pss_cons (ps_set (i := 4) nd rfl (by first | exact Or.inl rfl | exact Or.inr rfl) (C8.pe_c c_law_rows hr (by decide) rfl (pa_cons (pv 1) pa_nil)))
      (pss_cons (ps_set (i := 5) nd rfl (by first | exact Or.inl rfl | exact Or.inr rfl) pe_dnewT)
      (pss_cons (ps_for PassesOwn.never rfl (pi_range1 (by rfl) B.range (pa_cons (pe_callB call_len_seq (by rfl) B.len PySem.boot_len (pa_cons (pe_ix ix_list (pv 4) pe_int (fun _ _ => rfl)) pa_nil)) pa_nil)) (pg_name (i := 6) nd rfl (by first | exact Or.inl rfl | exact Or.inr rfl)) (pss_one (ps_dput (hu_of hr) (pv 5) (pe_ix ix_list (pe_ix ix_list (pv 4) pe_int (fun _ _ => rfl)) (pv 6) (fun _ _ => rfl)) (pv 6) rfl)))
      (pss_cons (ps_for PassesOwn.never rfl (pi_list (C8.pe_c c_law_orders hr (by decide) rfl (pa_cons (pe_callB call_len_seq (by rfl) B.len PySem.boot_len (pa_cons (pv 0) pa_nil)) pa_nil))) (pg_name (i := 7) nd rfl (by first | exact Or.inl rfl | exact Or.inr rfl)) (pss_cons (ps_set (i := 8) nd rfl (by first | exact Or.inl rfl | exact Or.inr rfl) (pe_callTy call_tuple_of (by rfl) B.tuple (by decide +kernel) (pa_cons (C8.pe_c c_law_moved hr (by decide) rfl (pa_cons (pv 3) (pa_cons (pv 7) pa_nil))) pa_nil)))
        (pss_one (ps_if (pt_cmp (pc_din (hu_of hr) (pv 8) (pv 5)) rfl) (pss_cons (ps_set (i := 9) nd rfl (by first | exact Or.inl rfl | exact Or.inr rfl) (pe_callTy call_tuple_of (by rfl) B.tuple (by decide +kernel) (pa_cons (pe_lc (own := [("_law_k", 10)]) (g := (gName 10)) (tt := tYes) (te := (tTup (tCons (tOp (rIxL K) (tVar 2) (tVar 10)) (tCons (tOp (rIxL K) (tVar 0) (tOp (rIxT K) (tVar 7) (tVar 10))) tNil)))) rfl nd (pi_range1 (by rfl) B.range (pa_cons (pe_callB call_len_seq (by rfl) B.len PySem.boot_len (pa_cons (pv 2) pa_nil)) pa_nil)) (blkOk_by (N := ["_law_names_here", "_law_masks_here", "_law_others", "_law_second_here", "_law_reach", "_law_places", "_law_at", "_law_order", "_law_moved_here", "_law_pairs_here", "_law_k"]) (sc := C8.fnScope s_law_due) (own := [("_law_k", 10)]) (by decide +kernel)) (fun _ _ _ _ _ => (pg_name (i := 10) nd rfl (by first | exact Or.inl rfl | exact Or.inr rfl))) (fun _ _ _ _ _ => pts_nil) (fun _ _ _ _ _ => (pe_tup (pa_cons (pe_ix ix_list (pv 2) (pv 10) (fun _ _ => rfl)) (pa_cons (pe_ix ix_list (pv 0) (pe_ix ix_tup (pv 7) (pv 10) (fun _ _ => rfl)) (fun _ _ => rfl)) pa_nil))))) pa_nil)))
          (pss_one (ps_ret (pe_tup (pa_cons (pv 9) (pa_cons (pe_callTy call_tuple_of (by rfl) B.tuple (by decide +kernel) (pa_cons (pe_lc (own := [("_law_at", 6)]) (g := (gName 6)) (tt := tYes) (te := (tOp (rIxL K) (tVar 0) (tVar 6))) rfl nd (pi_tup (pe_ix ix_list (pe_ix ix_list (pv 4) pe_int (fun _ _ => rfl)) (pe_dget (hu_of hr) (pv 5) (pv 8) (fun _ _ => rfl)) (fun _ _ => rfl))) (blkOk_by (N := ["_law_names_here", "_law_masks_here", "_law_others", "_law_second_here", "_law_reach", "_law_places", "_law_at", "_law_order", "_law_moved_here", "_law_pairs_here", "_law_k"]) (sc := C8.fnScope s_law_due) (own := [("_law_at", 6)]) (by decide +kernel)) (fun _ _ _ _ _ => (pg_name (i := 6) nd rfl (by first | exact Or.inl rfl | exact Or.inr rfl))) (fun _ _ _ _ _ => pts_nil) (fun _ _ _ _ _ => (pe_ix ix_list (pv 0) (pv 6) (fun _ _ => rfl)))) pa_nil)) pa_nil)))))) pss_nil))))
      (pss_one (ps_ret pe_non))))))), ?_⟩
  change tSeq _ _ _ [some (V.ref a1), some (V.ref a2), some (V.ref a3), some (V.ref a4), none, none, none, none, none, none, none] H
  walk_at "go"
  refine r_lenL h1 ?_
  walk_at "go"
  refine r_lenL h3 ?_
  walk_at "go"
  rw [List.length_map, List.length_map]
  by_cases hlen : ss.length = tt.length
  · have en : (!decide (nV ss.length = nV tt.length)) = false := by rw [hlen]; simp
    rw [en]
    refine iteF ?_
    walk_at "go"
    refine ⟨a2, c, ss.length, rfl, h2, N1.good, five, fun v H1 s1 hv => ?_⟩
    obtain ⟨rw1, fl, rl, fs, rs, rfl, hrw, hfl, pf, hrl, pr⟩ := hv
    have hok := reach_ok N1.good
    generalize hR : reach ss.length c = R at hok pf pr
    have hfew := hok.few five
    have hfs := Paired.length pf
    have hrs := Paired.length pr
    rw [List.length_map] at hfs hrs
    walk_at "go"
    intro D nD
    have s2 : Same H1 (upd H1 D (.dT [])) := Same.lay nD
    have eD : upd H1 D (.dT []) D = some (.dT []) := upd_same
    walk_at "go"
    refine r_ixL0 0 rfl (s2 _ _ hrw) rfl ?_
    walk_at "go"
    refine r_lenL (s2 _ _ hfl) ?_
    rw [hfs]
    refine w_r1 (fun i σ' H' => ∃ v6, σ' = [some (V.ref a1), some (V.ref a2), some (V.ref a3), some (V.ref a4), some (V.ref rw1), some (V.ref D), v6, none, none, none, none] ∧ Same H1 H' ∧ H' D = some (.dT (dC ((R.map (·.1)).take i) ((List.range i).map nV)))) (by omega) ?_ ?_ ?_
    · exact ⟨_, rfl, s2, eD⟩
    · rintro i σ' H2 hi ⟨v6, rfl, s3, eD⟩
      have hi' : i < (R.map (·.1)).length := by rw [List.length_map]; exact hi
      have hgi := List.getElem?_eq_getElem hi'
      obtain ⟨x, hx, a, rfl, ha⟩ := K81.Paired.get pf hgi
      have hno := not_mem_takeC hok.nd hgi
      generalize (R.map (·.1))[i] = ci at *
      have hlt : ((R.map (·.1)).take i).length = i := by rw [List.length_take]; omega
      walk_at "go"
      refine r_ixL0 0 rfl (s3 _ _ hrw) rfl ?_
      walk_at "go"
      refine r_ixL (s3 _ _ hfl) hx ?_
      refine ⟨D, _, rfl, g_put (v := nV i) eD (s3 _ _ ha) hno (by rw [hlt]; simp) (by rw [hlt]; omega), ?_⟩
      refine ⟨_, rfl, s3.chg nD, ?_⟩
      rw [upd_same, List.take_add_one, hgi, List.range_succ, List.map_append]
      rfl
    · rintro σ' H2 ⟨v6, rfl, s3, eD⟩
      rw [List.take_of_length_le (by rw [List.length_map]; exact Nat.le_refl _)] at eD
      have sA := s1.trans s3
      walk_at "go"
      refine r_lenL (sA _ _ h1) ?_
      rw [List.length_map]
      walk_at "go"
      refine ⟨ss.length, rfl, five, fun v H3 s4 hv => ?_⟩
      obtain ⟨l, os, rfl, hl, po⟩ := hv
      have hol := Paired.length po
      refine w_l (fun i σ' H' => ∃ v6 v7 v8, σ' = [some (V.ref a1), some (V.ref a2), some (V.ref a3), some (V.ref a4), some (V.ref rw1), some (V.ref D), v6, v7, v8, none, none] ∧ Same H3 H' ∧ ∀ o ∈ (orders ss.length).take i, hit ss.length c d o = false) hl ?_ ?_ ?_ ?_
      · exact ⟨_, _, _, rfl, Same.refl _, fun o ho => by simp at ho⟩
      · rintro i σ' H' _ ⟨_, _, _, rfl, s4, _⟩
        exact s4 _ _ hl
      · rintro i z σ' H4 hz ⟨v6, v7, v8, rfl, s5, hno⟩
        have hi : i < (orders ss.length).length := by
          have := (List.getElem?_eq_some_iff.mp hz).1
          omega
        have hoi := List.getElem?_eq_getElem hi
        obtain ⟨z', hz', oa, rfl, hoa⟩ := K81.Paired.get po hoi
        rw [hz] at hz'
        cases hz'
        have hord := orders_ok (List.getElem_mem hi)
        generalize (orders ss.length)[i] = od at *
        have sB := (sA.trans s4).trans s5
        walk_at "go"
        have gd : Good ss.length d := by rw [hlen]; exact N2.good
        refine ⟨a4, oa, d, od, ss.length, rfl, sB _ _ h4, s5 _ _ hoa, gd, hord, by omega, fun v H5 s6 hv => ?_⟩
        obtain ⟨m0, rfl, hm0⟩ := hv
        walk_at "go"
        refine r_tupOf hm0 fun m nm => ?_
        obtain ⟨s7, hm⟩ := layT nm ((moved ss.length d od).map nV)
        have gm := moved_good hord gd
        have s8 := s5.trans (s6.trans s7)
        have eD' := s8 _ _ (s4 _ _ eD)
        walk_at "go"
        by_cases hin : moved ss.length d od ∈ R.map (·.1)
        · obtain ⟨i', u, e1, e2, e3⟩ := dC_yes (vs := (List.range R.length).map nV) hok.nd (by simp) hin
          refine ⟨D, _, rfl, g_yes eD' hm hok.nd e1 e2, ?_⟩
          walk_at "go"
          refine iteT ?_
          have hans := ren_at hlen hno hoi (by rw [hit, hR]; exact decide_eq_true hin)
          have hrow : (moved ss.length d od, rowOf R (moved ss.length d od)) ∈ R := rowOf_mem hin
          rw [renAns, hR] at hans
          generalize rowOf R (moved ss.length d od) = row at hans hrow
          have hi2 : i' < R.length := by
            have := (List.getElem?_eq_some_iff.mp e1).1
            rw [List.length_map] at this
            exact this
          have hu : u = nV i' := by
            rw [List.getElem?_map, List.getElem?_range hi2] at e2
            cases e2
            rfl
          subst hu
          have hsnd : (R.map (·.2))[i']? = some row := by
            rw [List.getElem?_map, List.getElem?_eq_getElem hi2] at e1 ⊢
            simp only [Option.map_some, Option.some.injEq] at e1 ⊢
            have hmem : R[i'] ∈ R := List.getElem_mem hi2
            have : (moved ss.length d od, (R[i']).2) ∈ R := by rw [← e1]; exact hmem
            exact key_one hok.nd this hrow
          obtain ⟨y, hy, ra, rfl, hra⟩ := K81.Paired.get pr hsnd
          have sC := sB.trans (s6.trans s7)
          have s14 := s3.trans (s4.trans s8)
          walk_at "go"
          refine r_lenL (sC _ _ h3) ?_
          rw [List.length_map]
          refine c_r1 (fun j acc H' => Paired (PS2 H') acc ((renPairs ss tt od).take j)) (fun _ _ _ _ e r => ps2_t e r) (by omega) .nil (fun D acc j H' hD hj s e zz r => ?_) (fun l' H6 acc nl s9 el _ ea => ?_)
          · refine ⟨rfl, ?_⟩
            walk_at "go"
            refine iteT ?_
            walk_at "go"
            refine r_ixL (s _ _ (sC _ _ h3)) (sg_at hj) ?_
            walk_at "go"
            refine r_ixT (s _ _ (s8 _ _ hoa)) (ns_at (by rw [hord.len]; omega)) ?_
            refine r_ixL (s _ _ (sC _ _ h1)) (sg_at (hord.get_lt (by omega))) ?_
            walk_at "go"
            refine ⟨by show 2 ≤ sizeLine; decide, fun q nq => ?_⟩
            obtain ⟨s10, eq⟩ := layT nq [V.str (sg tt j), V.str (sg ss (g od j))]
            refine lc_yes (fun _ _ _ _ e r => ps2_t e r) hD (s.trans s10) (s10 _ _ e) zz (by omega) ?_
            have ht : (renPairs ss tt od).take (j + 1) = (renPairs ss tt od).take j ++ [(sg tt j, sg ss (g od j))] := by
              rw [List.take_add_one, renPairs, List.getElem?_map, List.getElem?_range hj]
              rfl
            rw [ht]
            exact Paired.snoc (ps2_t s10.tup r) ⟨q, rfl, eq⟩
          rw [List.take_of_length_le (by simp [renPairs])] at ea
          walk_at "go"
          refine r_tupOf el fun pp npp => ?_
          obtain ⟨s11, epp⟩ := layT npp acc
          have s12 := s14.trans (s9.trans s11)
          walk_at "go"
          refine r_ixL0 1 rfl (s12 _ _ hrw) rfl ?_
          walk_at "go"
          refine ⟨D, _, rfl, g_yes ((s9.trans s11) _ _ eD') ((s9.trans s11) _ _ hm) hok.nd e1 e2, ?_⟩
          refine r_ixL (s12 _ _ hrl) hy ?_
          have hrlen := hok.len _ hrow
          have hrr := hok.row _ hrow
          simp only at hrlen hrr
          refine c_t (xs := row.map nV) (fun i acc _ => acc = ((row.map (sg ss)).take i).map V.str) (fun _ _ _ _ _ e => e) (s12 _ _ hra) rfl (fun D acc i z H' hD hz hi s e zz r => ?_) (fun l2 H7 acc2 nl2 s13 el2 _ ea2 => ?_)
          · rw [List.length_map] at hi
            rw [ns_at hi] at hz
            cases hz
            refine ⟨rfl, ?_⟩
            walk_at "go"
            refine iteT ?_
            walk_at "go"
            have hlt : g row i < ss.length := hrr _ (List.mem_of_getElem? (g_get hi))
            refine r_ixL (s _ _ ((s9.trans s11) _ _ (sC _ _ h1))) (sg_at hlt) ?_
            refine lc_yes (fun _ _ _ _ _ e => e) hD s e zz (by omega) ?_
            rw [r, List.take_add_one, List.getElem?_map, g_get hi, List.map_append]
            rfl
          rw [List.length_map, List.take_of_length_le (by simp)] at ea2
          subst ea2
          walk_at "go"
          refine r_tupOf el2 fun pr2 npr => ?_
          obtain ⟨s15, epr⟩ := layT npr ((row.map (sg ss)).map V.str)
          walk_at "go"
          refine ⟨by show 2 ≤ sizeLine; decide, fun X nX => ?_⟩
          obtain ⟨s16, eX⟩ := layT nX [V.ref pp, V.ref pr2]
          have s17 := s13.trans (s15.trans s16)
          refine k _ _ (sC.trans (s9.trans (s11.trans s17))) ?_
          rw [hans]
          exact ⟨X, pp, pr2, acc, rfl, eX, s17 _ _ epp, ps2_t (s11.trans s17).tup ea, s16 _ _ epr⟩
        · refine ⟨D, _, rfl, g_no eD' hm hin, ?_⟩
          walk_at "go"
          refine iteF ?_
          exact ⟨_, _, _, rfl, s8, hits_snoc hno hoi (by rw [hit, hR]; exact decide_eq_false hin)⟩
      · rintro σ' H4 ⟨v6, v7, v8, rfl, s5, hno⟩
        rw [List.take_of_length_le (by omega)] at hno
        walk_at "go"
        refine k _ _ ((sA.trans s4).trans s5) ?_
        rw [ren_no hno]
        rfl
  · have en : (!decide (nV ss.length = nV tt.length)) = true := by
      rw [decide_eq_false (fun e => hlen (by have := V.int.inj e; omega))]
      rfl
    rw [en]
    refine iteT ?_
    walk_at "go"
    refine k _ _ (Same.refl _) ?_
    rw [ren, if_neg hlen]
    rfl
end
end K81
end

section
open PySem PySem.Spec PyProof.Rows L2

namespace K81
local macro_rules | `(tactic| walk_at "s1") => `(tactic| first
  | with_reducible refine r_seq ?_
  | with_reducible refine r_asg ?_
  | with_reducible refine r_ret ?_
  | with_reducible refine r_if ?_
  | with_reducible refine r_app ?_
  | with_reducible refine r_drop ?_
  | with_reducible refine r_asgS ?_
  | with_reducible refine r_op ?_
  | with_reducible refine r_c ?_
  | ((with_reducible refine' r_var ?hv ?_); (case hv => exact rfl))
  | with_reducible refine r_cb ?_
  | with_reducible refine r_cons ?_
  | with_reducible refine r_nil ?_
  | with_reducible refine r_test ?_
  | with_reducible refine r_tB ?_
  | with_reducible refine r_not ?_
  | with_reducible refine r_and ?_
  | with_reducible refine r_or ?_
  | with_reducible refine r_call ?_
  | with_reducible refine r_tup ?_
  | with_reducible refine r_for1 ?_
  | with_reducible refine r_for2 ?_
  | with_reducible refine r_forT ?_
  | with_reducible refine r_forL ?_
  | with_reducible refine r_lc1 ?_
  | with_reducible refine r_lcT ?_
  | with_reducible refine r_lcL ?_
  | with_reducible refine r_lcE ?_
  | with_reducible refine r_lst ?_
  | with_reducible refine r_yes ?_
  | with_reducible refine r_next ?_
  | with_reducible refine r_nat ?_
  | with_reducible refine r_nat1 ?_
  | with_reducible refine r_i0 ?_
  | with_reducible refine r_int1 ?_
  | ((with_reducible refine' r_eq ?hs ?_); (case hs => exact rfl))
  | ((with_reducible refine' r_ne ?hs ?_); (case hs => exact rfl))
  | with_reducible refine r_bitT ?_
  | with_reducible refine r_tfld ?_
  | with_reducible refine r_tsfld ?_
  | with_reducible refine r_make ?_
  | with_reducible refine r_callK ?_
  | with_reducible refine r_gN ?_
  | with_reducible refine r_din ?_
  | with_reducible refine r_dnin ?_
  | with_reducible refine r_dget ?_
  | with_reducible refine r_dput ?_
  | ((with_reducible refine' r_aug ?hv ?_); (case hv => exact rfl))
  | with_reducible refine r_bl ?_)
local macro_rules | `(tactic| walk_at "go") => `(tactic| repeat walk_at "s1")

abbrev s_law_strings : Stmt := topS 49
theorem sc_law_strings : FnScope ["_law_told", "_law_due_here", "_law_k"] ["_law_told", "_law_due_here"] (C8.fnScope s_law_strings) := C8.fnScope_by (by decide +kernel)
abbrev s_law_right : Stmt := topS 50
theorem sc_law_right : FnScope ["_law_net_here", "_law_other", "_law_due_here", "_law_way", "_law_told", "_law_k"] ["_law_net_here", "_law_other", "_law_due_here", "_law_way"] (C8.fnScope s_law_right) := C8.fnScope_by (by decide +kernel)

structure InsC (K : PySem.W.Frag) (C : Addr) : Prop where
  ha : PySem.W.findIn K (.ref C) "__class__" = some (some (.builtin "object.__class__"))
  hn : PySem.W.specialIn K (.builtin "object.__class__") "__get__" = some (some (.builtin "getset_descriptor.__get__"))
  htk : PySem.W.takesIn K (.builtin "object.__class__") = some true
  hm : PySem.W.mroIn K C (.type "object") = some true
section
variable {P : Program} {w : World} {K : PySem.W.Frag} {mg : Str → Option Value} {base : Heap} {CN CR : Addr}
theorem r_isT {H : Hp} {Q : VK} {a : Addr} {xs : List V} (h : H a = some (.tup xs)) (q : Q (.bl true) H) : rIsi K [.ref a, .ty "tuple"] H Q :=
  ⟨_, _, _, _, true, rfl, .ty _, .base (.tup h), kit_ty (by decide +kernel), q⟩
theorem r_isF {H : Hp} {Q : VK} {a : Addr} {o : Obj} {xs : List V} (h : H a = some (.frz o (.tup xs))) (q : Q (.bl true) H) : rIsi K [.ref a, .ty "tuple"] H Q :=
  ⟨_, _, _, _, true, rfl, .ty _, .fTuple h, kit_ty (by decide +kernel), q⟩
theorem r_isS {H : Hp} {Q : VK} {s : Str} (q : Q (.bl true) H) : rIsi K [.str s, .ty "str"] H Q :=
  ⟨_, _, _, _, true, rfl, .ty _, .base (.str s), kit_ty (by decide +kernel), q⟩
theorem r_isO {H : Hp} {Q : VK} {a C dx : Addr} {fs : List (Str × V)} (c : Cls K C) (i : InsC K C) (h : H a = some (.ins C dx fs)) (q : Q (.bl true) H) : rIsi K [.ref a, .ref C] H Q :=
  ⟨_, _, _, _, true, rfl, .own C, .base (.ins h c i.ha i.hn i.htk i.hm), by
    unfold PySem.W.kitOne
    rw [if_pos (beq_self_eq_true _)], q⟩
theorem r_neSelf {H : Hp} {Q : VK} {s : Str} (q : Q (.bl false) H) : rNe (.str s) (.str s) H Q := r_ne rfl (by rw [decide_eq_true rfl]; exact q)
def sp_law_strings (K : PySem.W.Frag) : Sp := fun vs H Q _ => ∃ (a b : Addr) (zs : List Str), vs = [.ref a, .ref b] ∧ H a = some (.tup (zs.map V.str)) ∧ H b = some (.tup (zs.map V.str)) ∧ zs.length ≤ 5000 ∧ Res H Q fun v _ => v = .bl true
theorem c_law_strings (B : Bi mg) (D : DB K mg "_law_strings" s_law_strings ["_law_told", "_law_due_here"]) : C8.Cal P w K mg base 1 "_law_strings" (sp_law_strings K) [] := by
  obtain ⟨f, fd, F, b⟩ := D.ex
  have nd := sc_law_strings.nd
  refine C8.cal0 F b .nil sc_law_strings (fun vs H Q E h => by obtain ⟨a, b, zs, rfl, _⟩ := h; rfl) fun cdv A outer s H vs Q E hr h => ?_
  obtain ⟨a, b, zs, rfl, ha, hb, hz, k⟩ := h
  refine ⟨(tSeq (tIfS (tOr (tNot (tB (tCB (rIsi K) (tCons (tVar 0) (tCons (tC (.ty "tuple")) tNil))))) (tTest (tOp rNe (tCB (rLenS K) (tCons (tVar 0) tNil)) (tCB (rLenS K) (tCons (tVar 1) tNil))))) (tRet (tC (.bl false))) tNext)
      (tSeq (tFor (iRng1 (tCons (tCB (rLenS K) (tCons (tVar 1) tNil)) tNil)) (gName 2) (tIfS (tOr (tNot (tB (tCB (rIsi K) (tCons (tOp (rIxT K) (tVar 0) (tVar 2)) (tCons (tC (.ty "str")) tNil))))) (tTest (tOp rNe (tOp (rIxT K) (tVar 0) (tVar 2)) (tOp (rIxT K) (tVar 1) (tVar 2))))) (tRet (tC (.bl false))) tNext))
      (tRet (tC (.bl true))))),
      (pss_cons (ps_if (PW.pt (pw_or (pt_not (pt_val (pe_callB call_isi (by rfl) B.isinstance (by decide +kernel) (pa_cons (pv 0) (pa_cons (pe_bltn (v := .ty "tuple") (by rfl) B.tuple (by decide +kernel) rfl) pa_nil))))) (pw_or1 (pt_cmpR op_ne (pe_callB call_len_seq (by rfl) B.len PySem.boot_len (pa_cons (pv 0) pa_nil)) (pe_callB call_len_seq (by rfl) B.len PySem.boot_len (pa_cons (pv 1) pa_nil)) (nomark _))))) (pss_one (ps_ret pe_bl)) pss_nil)
      (pss_cons (ps_for PassesOwn.never rfl (pi_range1 (by rfl) B.range (pa_cons (pe_callB call_len_seq (by rfl) B.len PySem.boot_len (pa_cons (pv 1) pa_nil)) pa_nil)) (pg_name (i := 2) nd rfl (by first | exact Or.inl rfl | exact Or.inr rfl)) (pss_one (ps_if (PW.pt (pw_or (pt_not (pt_val (pe_callB call_isi (by rfl) B.isinstance (by decide +kernel) (pa_cons (pe_ix ix_tup (pv 0) (pv 2) (fun _ _ => rfl)) (pa_cons (pe_bltn (v := .ty "str") (by rfl) B.str (by decide +kernel) rfl) pa_nil))))) (pw_or1 (pt_cmpR op_ne (pe_ix ix_tup (pv 0) (pv 2) (fun _ _ => rfl)) (pe_ix ix_tup (pv 1) (pv 2) (fun _ _ => rfl)) (nomark _))))) (pss_one (ps_ret pe_bl)) pss_nil)))
      (pss_one (ps_ret pe_bl)))), ?_⟩
  change tSeq _ _ _ [some (V.ref a), some (V.ref b), none] H
  walk_at "go"
  refine r_isT ha ?_
  walk_at "go"
  refine iteF ?_
  walk_at "go"
  refine r_lenT ha ?_
  walk_at "go"
  refine r_lenT hb ?_
  walk_at "go"
  rw [decide_eq_true rfl]
  refine iteF ?_
  walk_at "go"
  refine r_lenT hb ?_
  rw [List.length_map]
  refine w_r1 (fun i σ' H' => ∃ v2, σ' = [some (V.ref a), some (V.ref b), v2] ∧ H' = H) (by omega) ⟨_, rfl, rfl⟩ ?_ ?_
  · rintro i σ' H' hi ⟨v2, rfl, rfl⟩
    walk_at "go"
    refine r_ixT ha (sg_at hi) ?_
    walk_at "go"
    refine r_isS ?_
    walk_at "go"
    refine iteF ?_
    walk_at "go"
    refine r_ixT ha (sg_at hi) ?_
    walk_at "go"
    refine r_ixT hb (sg_at hi) ?_
    walk_at "go"
    rw [decide_eq_true rfl]
    refine iteF ?_
    exact ⟨_, rfl, rfl⟩
  · rintro σ' H' ⟨v2, rfl, rfl⟩
    walk_at "go"
    exact k _ _ (Same.refl _) rfl
def sp_law_right (K : PySem.W.Frag) (CN CR : Addr) : Sp := fun vs H Q _ => ∃ (x y : Addr) (u : V) (i : Int) (ss tt : List Str) (c d : Core), vs = [.ref x, .ref y, u, .int i] ∧ NetAt CN H x ss c ∧ NetAt CN H y tt d ∧ NetP ss c ∧ NetP tt d ∧ DueV H u (ren ss c tt d) ∧ Res H Q fun v _ => v = .bl true
theorem r_callK {sp : Sp} {gV : List V → List V → List V} {E : XK} {t tk : TA} {σ : L2.St} {H : Hp} {Q : VK} (h : t σ H fun vs H1 => tk σ H1 fun zs H2 => sp (gV vs zs) H2 Q E) : tCallK sp gV E t tk σ H Q := h
end
local macro_rules | `(tactic| walk_at "s1") => `(tactic| first
  | with_reducible refine r_seq ?_
  | with_reducible refine r_asg ?_
  | with_reducible refine r_ret ?_
  | with_reducible refine r_if ?_
  | with_reducible refine r_app ?_
  | with_reducible refine r_drop ?_
  | with_reducible refine r_asgS ?_
  | with_reducible refine r_op ?_
  | with_reducible refine r_c ?_
  | ((with_reducible refine' r_var ?hv ?_); (case hv => exact rfl))
  | with_reducible refine r_cb ?_
  | with_reducible refine r_cons ?_
  | with_reducible refine r_nil ?_
  | with_reducible refine r_test ?_
  | with_reducible refine r_tB ?_
  | with_reducible refine r_not ?_
  | with_reducible refine r_and ?_
  | with_reducible refine r_or ?_
  | with_reducible refine r_call ?_
  | with_reducible refine r_tup ?_
  | with_reducible refine r_for1 ?_
  | with_reducible refine r_for2 ?_
  | with_reducible refine r_forT ?_
  | with_reducible refine r_forL ?_
  | with_reducible refine r_lc1 ?_
  | with_reducible refine r_lcT ?_
  | with_reducible refine r_lcL ?_
  | with_reducible refine r_lcE ?_
  | with_reducible refine r_lst ?_
  | with_reducible refine r_yes ?_
  | with_reducible refine r_next ?_
  | with_reducible refine r_nat ?_
  | with_reducible refine r_nat1 ?_
  | with_reducible refine r_i0 ?_
  | with_reducible refine r_int1 ?_
  | ((with_reducible refine' r_eq ?hs ?_); (case hs => exact rfl))
  | ((with_reducible refine' r_ne ?hs ?_); (case hs => exact rfl))
  | with_reducible refine r_bitT ?_
  | with_reducible refine r_tfld ?_
  | with_reducible refine r_tsfld ?_
  | with_reducible refine r_make ?_
  | with_reducible refine r_callK ?_
  | with_reducible refine r_gN ?_
  | with_reducible refine r_din ?_
  | with_reducible refine r_dnin ?_
  | with_reducible refine r_dget ?_
  | with_reducible refine r_dput ?_
  | ((with_reducible refine' r_aug ?hv ?_); (case hv => exact rfl))
  | with_reducible refine r_bl ?_)
local macro_rules | `(tactic| walk_at "go") => `(tactic| repeat walk_at "s1")

section
variable {P : Program} {w : World} {K : PySem.W.Frag} {mg : Str → Option Value} {base : Heap} {CN CR : Addr}
theorem c_law_right (B : Bi mg) (T : Glob mg CN CR) (CL : ClsR K CR) (IC : InsC K CR) (c_renaming_to : C8.Cal P w K mg base 7 "renaming_to" (sp_renaming_to K CN CR) []) (ck_renaming_to : CalK P w K mg base 7 "renaming_to" (sp_renaming_to K CN CR) ["two", "one"]) (c_law_strings : C8.Cal P w K mg base 1 "_law_strings" (sp_law_strings K) [])
    (D : DB K mg "_law_right" s_law_right ["_law_net_here", "_law_other", "_law_due_here", "_law_way"]) : C8.Cal P w K mg base 8 "_law_right" (sp_law_right K CN CR) [] := by
  obtain ⟨f, fd, F, b⟩ := D.ex
  have nd := sc_law_right.nd
  refine C8.cal0 F b .nil sc_law_right (fun vs H Q E h => by obtain ⟨x, y, u, i, ss, tt, c, d, rfl, _⟩ := h; rfl) fun cdv A outer s H vs Q E hr h => ?_
  obtain ⟨x, y, u, i, ss, tt, c, d, rfl, nx, ny, N1, N2, hdue, k⟩ := h
  have five := N2.five
  refine ⟨(tSeq (tIfS (tTest (tOp rEq (tVar 3) (tC (.int 1)))) (tAsg (tCallK (sp_renaming_to K CN CR) swK C8.E0 tNil (tCons (tVar 1) (tCons (tVar 0) tNil))) (gName 4)) (tAsg (tCall (sp_renaming_to K CN CR) [] C8.E0 (tCons (tVar 0) (tCons (tVar 1) tNil))) (gName 4)))
      (tSeq (tIfS (tTest (tOp rIsN (tVar 2) (tC .non))) (tRet (tOp rIsN (tVar 4) (tC .non))) tNext)
      (tSeq (tIfS (tOr (tNot (tB (tCB (rIsi K) (tCons (tVar 4) (tCons (tC (.ref CR)) tNil))))) (tOr (tNot (tB (tCB (rIsi K) (tCons (tFld K (tVar 4) "pairs") (tCons (tC (.ty "tuple")) tNil))))) (tTest (tOp rNe (tCB (rLenS K) (tCons (tFld K (tVar 4) "pairs") tNil)) (tCB (rLenS K) (tCons (tOp (rIxT K) (tVar 2) (tC (.int 0))) tNil)))))) (tRet (tC (.bl false))) tNext)
      (tSeq (tFor (iRng1 (tCons (tCB (rLenS K) (tCons (tOp (rIxT K) (tVar 2) (tC (.int 0))) tNil)) tNil)) (gName 5) (tIfS (tNot (tB (tCall (sp_law_strings K) [] C8.E0 (tCons (tOp (rIxT K) (tFld K (tVar 4) "pairs") (tVar 5)) (tCons (tOp (rIxT K) (tOp (rIxT K) (tVar 2) (tC (.int 0))) (tVar 5)) tNil))))) (tRet (tC (.bl false))) tNext))
      (tRet (tCall (sp_law_strings K) [] C8.E0 (tCons (tFld K (tVar 4) "presses") (tCons (tOp (rIxT K) (tVar 2) (tC (.int 1))) tNil)))))))),
      (pss_cons (ps_if (pt_cmpR op_eq (pv 3) pe_int (nomark _)) (pss_one (ps_set (i := 4) nd rfl (by first | exact Or.inl rfl | exact Or.inr rfl) (pe_ck ck_renaming_to hr (by decide) rfl (pk_cons (pv 1) (pk_cons (pv 0) pk_nil))))) (pss_one (ps_set (i := 4) nd rfl (by first | exact Or.inl rfl | exact Or.inr rfl) (C8.pe_c c_renaming_to hr (by decide) rfl (pa_cons (pv 0) (pa_cons (pv 1) pa_nil))))))
      (pss_cons (ps_if (pt_cmpR op_isN (pv 2) pe_non (nomark _)) (pss_one (ps_ret (pe_cmpR op_isN (pv 4) pe_non (nomark _)))) pss_nil)
      (pss_cons (ps_if (PW.pt (pw_or (pt_not (pt_val (pe_callB call_isi (by rfl) B.isinstance (by decide +kernel) (pa_cons (pv 4) (pa_cons (C8.pe_gc rfl T.Renaming) pa_nil))))) (pw_or (pt_not (pt_val (pe_callB call_isi (by rfl) B.isinstance (by decide +kernel) (pa_cons (pe_fld (pv 4) rfl) (pa_cons (pe_bltn (v := .ty "tuple") (by rfl) B.tuple (by decide +kernel) rfl) pa_nil))))) (pw_or1 (pt_cmpR op_ne (pe_callB call_len_seq (by rfl) B.len PySem.boot_len (pa_cons (pe_fld (pv 4) rfl) pa_nil)) (pe_callB call_len_seq (by rfl) B.len PySem.boot_len (pa_cons (pe_ix ix_tup (pv 2) pe_int (fun _ _ => rfl)) pa_nil)) (nomark _)))))) (pss_one (ps_ret pe_bl)) pss_nil)
      (pss_cons (ps_for PassesOwn.never rfl (pi_range1 (by rfl) B.range (pa_cons (pe_callB call_len_seq (by rfl) B.len PySem.boot_len (pa_cons (pe_ix ix_tup (pv 2) pe_int (fun _ _ => rfl)) pa_nil)) pa_nil)) (pg_name (i := 5) nd rfl (by first | exact Or.inl rfl | exact Or.inr rfl)) (pss_one (ps_if (pt_not (pt_val (C8.pe_c c_law_strings hr (by decide) rfl (pa_cons (pe_ix ix_tup (pe_fld (pv 4) rfl) (pv 5) (fun _ _ => rfl)) (pa_cons (pe_ix ix_tup (pe_ix ix_tup (pv 2) pe_int (fun _ _ => rfl)) (pv 5) (fun _ _ => rfl)) pa_nil))))) (pss_one (ps_ret pe_bl)) pss_nil)))
      (pss_one (ps_ret (C8.pe_c c_law_strings hr (by decide) rfl (pa_cons (pe_fld (pv 4) rfl) (pa_cons (pe_ix ix_tup (pv 2) pe_int (fun _ _ => rfl)) pa_nil))))))))), ?_⟩
  change tSeq _ _ _ [some (V.ref x), some (V.ref y), some u, some (V.int i), none, none] H
  walk_at "go"
  refine ite2 (fun hb => ?_) (fun hb => ?_)
  all_goals
    walk_at "go"
    refine ⟨x, y, ss, tt, c, d, rfl, nx, ny, N1, N2, fun v H1 s1 hv => ?_⟩
    have hpl : ∀ r, ren ss c tt d = some r → r.1.length = tt.length ∧ r.2.length ≤ 1024 := by
      intro r e
      rw [ren] at e
      split at e
      · obtain ⟨o, ho, rfl⟩ := Option.map_eq_some_iff.mp e
        refine ⟨by simp [renAns, renPairs], ?_⟩
        have hok := reach_ok N1.good
        have hfew := hok.few N1.five
        have hh := List.find?_some ho
        rw [hit] at hh
        rw [renAns]
        generalize reach ss.length c = R at hok hfew hh
        have hl := hok.len _ (rowOf_mem (of_decide_eq_true hh))
        rw [List.length_map]
        simp only at hl
        omega
      · cases e
    have hd1 := hdue.s s1
    generalize ren ss c tt d = rr at hpl hd1 hv
    cases rr with
    | none =>
      cases (show v = V.non from hv)
      cases (show u = V.non from hd1)
      walk_at "go"
      refine ⟨rfl, ?_⟩
      walk_at "go"
      rw [decide_eq_true rfl]
      refine iteT ?_
      walk_at "go"
      refine ⟨rfl, ?_⟩
      exact k _ _ s1 rfl
    | some r =>
      obtain ⟨ux, pp, pr, ts, rfl, e1, e2, e3, e4⟩ := hd1
      obtain ⟨z, rfl, dz, zp, zr, zs, f1, f2, f3, f4⟩ := hv
      obtain ⟨hl1, hl2⟩ := hpl r rfl
      have hts := Paired.length e3
      have hzs := Paired.length f3
      walk_at "go"
      refine ⟨rfl, ?_⟩
      walk_at "go"
      refine iteF ?_
      walk_at "go"
      refine r_isO CL.cls IC f1 ?_
      walk_at "go"
      refine iteF ?_
      walk_at "go"
      refine r_fld f1 CL.cls CL.pairs rfl ?_
      walk_at "go"
      refine r_isT f2 ?_
      walk_at "go"
      refine iteF ?_
      walk_at "go"
      refine r_fld f1 CL.cls CL.pairs rfl ?_
      walk_at "go"
      refine r_lenT f2 ?_
      walk_at "go"
      refine r_ixT0 0 rfl e1 rfl ?_
      walk_at "go"
      refine r_lenT e2 ?_
      walk_at "go"
      rw [show zs.length = ts.length by omega, decide_eq_true rfl]
      refine iteF ?_
      walk_at "go"
      refine r_ixT0 0 rfl e1 rfl ?_
      walk_at "go"
      refine r_lenT e2 ?_
      refine w_r1 (fun i' σ' H' => ∃ v2, σ' = [some (V.ref x), some (V.ref y), some (V.ref ux), some (V.int i), some (V.ref z), v2] ∧ Same H1 H') (by omega) ⟨_, rfl, Same.refl _⟩ ?_ ?_
      · rintro j σ' H' hj ⟨v2, rfl, s2⟩
        have hj1 : j < r.1.length := by omega
        obtain ⟨x1, hx1, b1, rfl, hb1⟩ := K81.Paired.get f3 (List.getElem?_eq_getElem hj1)
        obtain ⟨x2, hx2, b2, rfl, hb2⟩ := K81.Paired.get e3 (List.getElem?_eq_getElem hj1)
        walk_at "go"
        refine r_fld (s2 _ _ f1) CL.cls CL.pairs rfl ?_
        walk_at "go"
        refine r_ixT (s2 _ _ f2) hx1 ?_
        walk_at "go"
        refine r_ixT0 0 rfl (s2 _ _ e1) rfl ?_
        walk_at "go"
        refine r_ixT (s2 _ _ e2) hx2 ?_
        walk_at "go"
        refine ⟨b1, b2, [(r.1[j]).1, (r.1[j]).2], rfl, s2 _ _ hb1, s2 _ _ hb2, by show 2 ≤ 5000; decide, fun v H2 s3 hv => ?_⟩
        subst hv
        walk_at "go"
        refine iteF ?_
        exact ⟨_, rfl, s2.trans s3⟩
      · rintro σ' H' ⟨v2, rfl, s2⟩
        walk_at "go"
        refine r_fld (s2 _ _ f1) CL.cls CL.presses rfl ?_
        walk_at "go"
        refine r_ixT0 1 rfl (s2 _ _ e1) rfl ?_
        walk_at "go"
        refine ⟨zr, pr, r.2, rfl, s2 _ _ f4, s2 _ _ e4, by omega, fun v H2 s3 hv => ?_⟩
        exact k _ _ (s1.trans (s2.trans s3)) hv
end
end K81
end

section
open PySem PySem.Spec PyProof.Rows L2

namespace K81
section
variable {r : V → Option Int → Option Int → Hp → VK → Prop} {te t : TE} {tl th : TO} {σ : L2.St} {H : Hp} {Q : VK} {R : Option Int → Hp → Prop}
theorem r_sl (h : te σ H fun x H1 => tl σ H1 fun l H2 => th σ H2 fun u H3 => r x l u H3 Q) : L2.tSl r te tl th σ H Q := h
theorem r_part (h : t σ H fun x H1 => ∃ i, x = .int i ∧ R (some i) H1) : tPart t σ H R := h
theorem r_nopart (h : R none H) : tNoPart σ H R := h
theorem r_andV {ta tb : TE} (h : ta σ H fun x H1 => ∃ c, x = .bl c ∧ if c = true then tb σ H1 Q else Q (.bl false) H1) : tAndV ta tb σ H Q := h
theorem sl_L {K : PySem.W.Frag} {a : Addr} {xs : List V} {lo hi : Option Int} (h : H a = some (.lst xs)) (q : ∀ p, H p = none → Q (.ref p) (upd H p (.lst (cutV xs lo hi)))) : rSlL K (.ref a) lo hi H Q := ⟨a, xs, rfl, SqL.of h, q⟩
end
local macro_rules | `(tactic| walk_at "s1") => `(tactic| first
  | with_reducible refine r_seq ?_
  | with_reducible refine r_asg ?_
  | with_reducible refine r_ret ?_
  | with_reducible refine r_if ?_
  | with_reducible refine r_app ?_
  | with_reducible refine r_drop ?_
  | with_reducible refine r_asgS ?_
  | with_reducible refine r_op ?_
  | with_reducible refine r_c ?_
  | ((with_reducible refine' r_var ?hv ?_); (case hv => exact rfl))
  | with_reducible refine r_cb ?_
  | with_reducible refine r_cons ?_
  | with_reducible refine r_nil ?_
  | with_reducible refine r_test ?_
  | with_reducible refine r_tB ?_
  | with_reducible refine r_not ?_
  | with_reducible refine r_and ?_
  | with_reducible refine r_or ?_
  | with_reducible refine r_call ?_
  | with_reducible refine r_tup ?_
  | with_reducible refine r_for1 ?_
  | with_reducible refine r_for2 ?_
  | with_reducible refine r_forT ?_
  | with_reducible refine r_forL ?_
  | with_reducible refine r_lc1 ?_
  | with_reducible refine r_lcT ?_
  | with_reducible refine r_lcL ?_
  | with_reducible refine r_lcE ?_
  | with_reducible refine r_lst ?_
  | with_reducible refine r_yes ?_
  | with_reducible refine r_next ?_
  | with_reducible refine r_nat ?_
  | with_reducible refine r_nat1 ?_
  | with_reducible refine r_i0 ?_
  | with_reducible refine r_int1 ?_
  | ((with_reducible refine' r_eq ?hs ?_); (case hs => exact rfl))
  | ((with_reducible refine' r_ne ?hs ?_); (case hs => exact rfl))
  | with_reducible refine r_bitT ?_
  | with_reducible refine r_tfld ?_
  | with_reducible refine r_tsfld ?_
  | with_reducible refine r_make ?_
  | with_reducible refine r_sl ?_
  | with_reducible refine r_part ?_
  | with_reducible refine r_nopart ?_
  | with_reducible refine r_callK ?_
  | with_reducible refine r_gN ?_
  | with_reducible refine r_din ?_
  | with_reducible refine r_dnin ?_
  | with_reducible refine r_dget ?_
  | with_reducible refine r_dput ?_
  | ((with_reducible refine' r_aug ?hv ?_); (case hv => exact rfl))
  | with_reducible refine r_bl ?_)
local macro_rules | `(tactic| walk_at "go") => `(tactic| repeat walk_at "s1")

abbrev s_law_net : Stmt := topS 42
theorem sc_law_net : FnScope ["_law_names_here", "_law_masks_here", "_law_row", "_law_ties", "_law_at", "_law_pair", "_law_turn"] ["_law_names_here", "_law_masks_here", "_law_row"] (C8.fnScope s_law_net) := C8.fnScope_by (by decide +kernel)
abbrev s_law_is_net : Stmt := topS 45
theorem sc_law_is_net : FnScope ["_law_told", "_law_names_here", "_law_masks_here", "_law_due_here", "_law_pair"] ["_law_told", "_law_names_here", "_law_masks_here"] (C8.fnScope s_law_is_net) := C8.fnScope_by (by decide +kernel)

theorem cut_lo (xs : List V) (k : Nat) : cutV xs (some (k : Int)) none = xs.drop k := by
  rw [cutV, HT.sIx_nat, HT.sIx_none]
  rw [List.take_of_length_le (by rw [List.length_drop]; omega)]
  by_cases h : k ≤ xs.length
  · rw [Nat.min_eq_left h]
  · rw [Nat.min_eq_right (by omega), List.drop_of_length_le (Nat.le_refl _), List.drop_of_length_le (by omega)]
theorem cut_hi (xs : List V) (k : Nat) : cutV xs none (some (k : Int)) = xs.take k := by
  rw [cutV, HT.sIx_nat, HT.sIx_none, List.drop_zero, Nat.sub_zero]
  by_cases h : k ≤ xs.length
  · rw [Nat.min_eq_left h]
  · rw [Nat.min_eq_right (by omega), List.take_of_length_le (Nat.le_refl _), List.take_of_length_le (by omega)]
/-- ties in a list at l, none of them the list itself -/
def TieX (ss : List Str) (l : Addr) (H : Hp) (x : V) (p : Nat × Nat) : Prop := TieAt ss H x p ∧ x ≠ .ref l
theorem TieX.s {ss : List Str} {l : Addr} {H H' : Hp} {x : V} {p : Nat × Nat} (e : SX l H H') (h : TieX ss l H x p) : TieX ss l H' x p := by
  obtain ⟨⟨h1, b, s1, s2, rfl, h3, h4, h5⟩, hn⟩ := h
  have hb : b ≠ l := fun e => hn (by rw [e])
  exact ⟨⟨h1, b, s1, s2, rfl, h3, h4, h5.imp (e _ _ hb) (e _ _ hb)⟩, hn⟩
theorem tiex_s {ss : List Str} {l : Addr} {H H' : Hp} {xs : List V} {ps : List (Nat × Nat)} (e : SX l H H') (h : Paired (TieX ss l H) xs ps) : Paired (TieX ss l H') xs ps := L2.Paired.mapP h fun _ _ r => r.s e
/-- ties written so far: of the core, and all of the first t pairs -/
structure Cov (n : Nat) (c : Core) (ps : List (Nat × Nat)) (t : Nat) : Prop where
  ok : ∀ p ∈ ps, TieOk n p ∧ (g c p.1).testBit p.2 = true
  all : ∀ q ∈ (pairs n).take t, (g c q.1).testBit q.2 = true → q ∈ ps ∨ (q.2, q.1) ∈ ps
theorem Cov.no {n : Nat} {c : Core} {ps : List (Nat × Nat)} {t : Nat} {q : Nat × Nat} (h : Cov n c ps t) (hq : (pairs n)[t]? = some q) (hb : (g c q.1).testBit q.2 = false) : Cov n c ps (t + 1) := by
  refine ⟨h.ok, fun r hr hr2 => ?_⟩
  rw [List.take_add_one, hq] at hr
  rcases List.mem_append.mp hr with hr | hr
  · exact h.all r hr hr2
  · simp at hr
    subst hr
    rw [hb] at hr2
    cases hr2
theorem Cov.yes {n : Nat} {c : Core} {ps qs : List (Nat × Nat)} {t : Nat} {q : Nat × Nat} (h : Cov n c ps t) (hq : (pairs n)[t]? = some q) (h1 : ∀ p ∈ qs, TieOk n p ∧ (g c p.1).testBit p.2 = true) (h2 : q ∈ qs ∨ (q.2, q.1) ∈ qs) : Cov n c (ps ++ qs) (t + 1) := by
  refine ⟨fun p hp => (List.mem_append.mp hp).elim (h.ok p) (h1 p), fun r hr hr2 => ?_⟩
  rw [List.take_add_one, hq] at hr
  rcases List.mem_append.mp hr with hr | hr
  · exact (h.all r hr hr2).imp (fun z => List.mem_append_left _ z) (fun z => List.mem_append_left _ z)
  · simp at hr
    subst hr
    exact h2.imp (fun z => List.mem_append_right _ z) (fun z => List.mem_append_right _ z)
theorem Cov.core {n : Nat} {c : Core} {ps : List (Nat × Nat)} (hg : Good n c) (h : Cov n c ps (pairs n).length) : coreOf n ps = c := by
  refine coreOf_eq hg (fun p hp => (h.ok p hp).1) (fun p hp => (h.ok p hp).2) fun i k hik hk hb => ?_
  refine h.all (i, k) ?_ hb
  rw [List.take_of_length_le (Nat.le_refl _)]
  exact mem_pairs.mpr ⟨hik, hk⟩
section
variable {P : Program} {w : World} {K : PySem.W.Frag} {mg : Str → Option Value} {base : Heap} {CN CR : Addr}
def sp_law_net (K : PySem.W.Frag) (CN : Addr) : Sp := fun vs H Q _ => ∃ (a1 a2 a3 : Addr) (ss : List Str) (c : Core) (row : List Nat), vs = [.ref a1, .ref a2, .ref a3] ∧ H a1 = some (.lst (ss.map V.str)) ∧ H a2 = some (.lst (c.map nV)) ∧ H a3 = some (.lst (row.map nV)) ∧ NetP ss c ∧ 11 ≤ row.length ∧ Res H Q fun v H' => NetV CN H' v ss c
theorem c_law_net (B : Bi mg) (c_law_pairs : C8.Cal P w K mg base 1 "_law_pairs" (sp_law_pairs K) []) (c_law_has : C8.Cal P w K mg base 1 "_law_has" (sp_law_has K) []) (c_net_init : C8.Mak P w K mg base 3 "Net" CN (sp_net_init K CN) [])
    (D : DB K mg "_law_net" s_law_net ["_law_names_here", "_law_masks_here", "_law_row"]) : C8.Cal P w K mg base 5 "_law_net" (sp_law_net K CN) [] := by
  obtain ⟨f, fd, F, b⟩ := D.ex
  have nd := sc_law_net.nd
  refine C8.cal0 F b .nil sc_law_net (fun vs H Q E h => by obtain ⟨a1, a2, a3, ss, c, row, rfl, _⟩ := h; rfl) fun cdv A outer s H vs Q E hr h => ?_
  obtain ⟨a1, a2, a3, ss, c, row, rfl, h1, h2, h3, N, hrow, k⟩ := h
  have five := N.five
  have hcl := N.good.1
  refine ⟨(tSeq (tAsg (tLst tNil) (gName 3))
      (tSeq (tAsg (tC (.int 1)) (gName 4))
      (tSeq (tFor (iList K (tCall (sp_law_pairs K) [] C8.E0 (tCons (tCB (rLenS K) (tCons (tVar 0) tNil)) tNil))) (gName 5) (tSeq (tIfS (tB (tCall (sp_law_has K) [] C8.E0 (tCons (tOp (rIxL K) (tVar 1) (tOp (rIxT K) (tVar 5) (tC (.int 0)))) (tCons (tOp (rIxT K) (tVar 5) (tC (.int 1))) tNil)))) (tSeq (tIfS (tTest (tOp rLtI (tOp (rIxL K) (tVar 2) (tVar 4)) (tC (.int 3)))) (tDrop (tBM K "list" rAppend (tVar 3) (tCons (tTup (tCons (tOp (rIxL K) (tVar 0) (tOp (rIxT K) (tVar 5) (tC (.int 0)))) (tCons (tOp (rIxL K) (tVar 0) (tOp (rIxT K) (tVar 5) (tC (.int 1)))) tNil))) tNil))) (tDrop (tBM K "list" rAppend (tVar 3) (tCons (tLst (tCons (tOp (rIxL K) (tVar 0) (tOp (rIxT K) (tVar 5) (tC (.int 1)))) (tCons (tOp (rIxL K) (tVar 0) (tOp (rIxT K) (tVar 5) (tC (.int 0)))) tNil))) tNil))))
          (tIfS (tTest (tOp rEq (tOp (rIxL K) (tVar 2) (tVar 4)) (tC (.int 5)))) (tDrop (tBM K "list" rAppend (tVar 3) (tCons (tTup (tCons (tOp (rIxL K) (tVar 0) (tOp (rIxT K) (tVar 5) (tC (.int 0)))) (tCons (tOp (rIxL K) (tVar 0) (tOp (rIxT K) (tVar 5) (tC (.int 1)))) tNil))) tNil))) tNext)) tNext)
        (tAsg (tOp rAddI (tVar 4) (tC (.int 1))) (gName 4))))
      (tSeq (tAsg (tOp rModI (tCB rInt1 (tCons (tOp (rIxL K) (tVar 2) (tC (.int 0))) tNil)) (tOp rAddI (tCB (rLenS K) (tCons (tVar 0) tNil)) (tC (.int 1)))) (gName 6))
      (tRet (tMake CN (sp_net_init K CN) [] C8.E0 (tCons (tOp rCat (tSl (rSlL K) (tVar 0) (tPart (tVar 6)) tNoPart) (tSl (rSlL K) (tVar 0) tNoPart (tPart (tVar 6)))) (tCons (tVar 3) tNil)))))))),
      (pss_cons (ps_set (i := 3) nd rfl (by first | exact Or.inl rfl | exact Or.inr rfl) (pe_lst pa_nil))
      (pss_cons (ps_set (i := 4) nd rfl (by first | exact Or.inl rfl | exact Or.inr rfl) pe_int)
      (pss_cons (ps_for PassesOwn.never rfl (pi_list (C8.pe_c c_law_pairs hr (by decide) rfl (pa_cons (pe_callB call_len_seq (by rfl) B.len PySem.boot_len (pa_cons (pv 0) pa_nil)) pa_nil))) (pg_name (i := 5) nd rfl (by first | exact Or.inl rfl | exact Or.inr rfl)) (pss_cons (ps_if (pt_val (C8.pe_c c_law_has hr (by decide) rfl (pa_cons (pe_ix ix_list (pv 1) (pe_ix ix_tup (pv 5) pe_int (fun _ _ => rfl)) (fun _ _ => rfl)) (pa_cons (pe_ix ix_tup (pv 5) pe_int (fun _ _ => rfl)) pa_nil)))) (pss_cons (ps_if (pt_cmpR op_lt (pe_ix ix_list (pv 2) (pv 4) (fun _ _ => rfl)) pe_int (nomark _)) (pss_one (ps_expr (pe_bm PySem.F.plainAttrs_list PySem.F.slot_list_append PySem.F.type_list_append mt_append (pv 3) (pa_cons (pe_tup (pa_cons (pe_ix ix_list (pv 0) (pe_ix ix_tup (pv 5) pe_int (fun _ _ => rfl)) (fun _ _ => rfl)) (pa_cons (pe_ix ix_list (pv 0) (pe_ix ix_tup (pv 5) pe_int (fun _ _ => rfl)) (fun _ _ => rfl)) pa_nil))) pa_nil)))) (pss_one (ps_expr (pe_bm PySem.F.plainAttrs_list PySem.F.slot_list_append PySem.F.type_list_append mt_append (pv 3) (pa_cons (pe_lst (pa_cons (pe_ix ix_list (pv 0) (pe_ix ix_tup (pv 5) pe_int (fun _ _ => rfl)) (fun _ _ => rfl)) (pa_cons (pe_ix ix_list (pv 0) (pe_ix ix_tup (pv 5) pe_int (fun _ _ => rfl)) (fun _ _ => rfl)) pa_nil))) pa_nil)))))
          (pss_one (ps_if (pt_cmpR op_eq (pe_ix ix_list (pv 2) (pv 4) (fun _ _ => rfl)) pe_int (nomark _)) (pss_one (ps_expr (pe_bm PySem.F.plainAttrs_list PySem.F.slot_list_append PySem.F.type_list_append mt_append (pv 3) (pa_cons (pe_tup (pa_cons (pe_ix ix_list (pv 0) (pe_ix ix_tup (pv 5) pe_int (fun _ _ => rfl)) (fun _ _ => rfl)) (pa_cons (pe_ix ix_list (pv 0) (pe_ix ix_tup (pv 5) pe_int (fun _ _ => rfl)) (fun _ _ => rfl)) pa_nil))) pa_nil)))) pss_nil))) pss_nil)
        (pss_one (ps_set (i := 4) nd rfl (by first | exact Or.inl rfl | exact Or.inr rfl) (pe_op op_add (pv 4) pe_int)))))
      (pss_cons (ps_set (i := 6) nd rfl (by first | exact Or.inl rfl | exact Or.inr rfl) (pe_op op_mod (pe_callTy call_int1 (by rfl) B.int (by decide +kernel) (pa_cons (pe_ix ix_list (pv 2) pe_int (fun _ _ => rfl)) pa_nil)) (pe_op op_add (pe_callB call_len_seq (by rfl) B.len PySem.boot_len (pa_cons (pv 0) pa_nil)) pe_int)))
      (pss_one (ps_ret (C8.pe_mk c_net_init hr (by decide) rfl (pa_cons (pe_op op_cat (pe_slice sl_list (pv 0) (po_some (pv 6)) po_none) (pe_slice sl_list (pv 0) po_none (po_some (pv 6)))) (pa_cons (pv 3) pa_nil))))))))), ?_⟩
  change tSeq _ _ _ [some (V.ref a1), some (V.ref a2), some (V.ref a3), none, none, none, none] H
  walk_at "go"
  refine ⟨Nat.zero_le _, fun l nl => ?_⟩
  obtain ⟨s1, hl⟩ := layL nl []
  walk_at "go"
  refine r_lenL (s1 _ _ h1) ?_
  rw [List.length_map]
  walk_at "go"
  refine ⟨ss.length, rfl, by omega, fun v H1 s2 hv => ?_⟩
  obtain ⟨pl, xs, rfl, npl, hpl, pxs⟩ := hv
  have hne : pl ≠ l := by rintro rfl; rw [hl] at npl; cases npl
  have hxs := Paired.length pxs
  have hpf := pairs_len ss.length five
  refine w_l (fun t σ' H' => ∃ v5 xs ps, σ' = [some (V.ref a1), some (V.ref a2), some (V.ref a3), some (V.ref l), some (nV (t + 1)), v5, none] ∧ SX l H1 H' ∧ Same H H' ∧ H' l = some (.lst xs) ∧ xs.length ≤ 2 * t ∧ Paired (TieX ss l H') xs ps ∧ Cov ss.length c ps t) hpl ?_ ?_ ?_ ?_
  · exact ⟨_, [], [], rfl, Same.sx (Same.refl _), s1.trans s2, s2 _ _ hl, Nat.le_refl _, .nil, ⟨(fun p hp => by cases hp), (fun q z => by cases z)⟩⟩
  · rintro i σ' H' _ ⟨_, _, _, rfl, sx, _⟩
    exact sx _ _ hne hpl
  · rintro t x σ' H2 hx ⟨v5, xs', ps, rfl, sx, s3, el, hlen, px, cv⟩
    have ht : t < (pairs ss.length).length := by
      have := (List.getElem?_eq_some_iff.mp hx).1
      omega
    have htq := List.getElem?_eq_getElem ht
    obtain ⟨x', hx', b, rfl, hb0⟩ := K81.Paired.get pxs htq
    rw [hx] at hx'
    cases hx'
    obtain ⟨m1, m2⟩ := mem_pairs.mp (List.getElem_mem ht)
    generalize (pairs ss.length)[t] = q at *
    obtain ⟨i, j⟩ := q
    simp only at m1 m2 hb0
    have hbl : b ≠ l := by
      rintro rfl
      rw [s2 _ _ hl] at hb0
      cases hb0
    have hb := sx _ _ hbl hb0
    have hz : xs'.length < 100000 := by omega
    walk_at "go"
    refine r_ixT0 0 rfl hb rfl ?_
    refine r_ixL (s3 _ _ h2) (ns_at (by rw [hcl]; omega)) ?_
    walk_at "go"
    refine r_ixT0 1 rfl hb rfl ?_
    walk_at "go"
    refine ⟨_, _, rfl, ?_⟩
    walk_at "go"
    cases hbit : (g c i).testBit j with
    | false =>
      refine iteF ?_
      walk_at "go"
      exact ⟨_, xs', ps, rfl, sx, s3, el, by omega, px, cv.no htq hbit⟩
    | true =>
      have hbit2 : (g c j).testBit i = true := by rw [N.good.sym j i]; exact hbit
      have ok1 : TieOk ss.length (i, j) ∧ (g c i).testBit j = true := ⟨⟨by show i < _; omega, m2, by show i ≠ j; omega⟩, hbit⟩
      have ok2 : TieOk ss.length (j, i) ∧ (g c j).testBit i = true := ⟨⟨m2, by show i < _; omega, by show j ≠ i; omega⟩, hbit2⟩
      have hi : i < ss.length := by omega
      refine iteT ?_
      walk_at "go"
      refine r_ixL (s3 _ _ h3) (ns_at (show t + 1 < _ by omega)) ?_
      walk_at "go"
      -- what is behind the first tie, the rest alike
      have rest : ∀ (H3 : Hp) (z : Addr) (p : Nat × Nat) (D : Ends), SX l H1 H3 → Same H H3 → H3 l = some (.lst (xs' ++ [V.ref z])) → Paired (TieX ss l H3) (xs' ++ [V.ref z]) (ps ++ [p]) → (p = (i, j) ∨ p = (j, i)) →
          (∀ H4 xs2 qs, SX l H1 H4 → Same H H4 → H4 l = some (.lst xs2) → xs2.length ≤ 2 * (t + 1) → Paired (TieX ss l H4) xs2 qs → Cov ss.length c qs (t + 1) → D.nx [some (V.ref a1), some (V.ref a2), some (V.ref a3), some (V.ref l), some (nV (t + 1)), some (V.ref b), none] H4) →
          tIfS (tTest (tOp rEq (tOp (rIxL K) (tVar 2) (tVar 4)) (tC (.int 5)))) (tDrop (tBM K "list" rAppend (tVar 3) (tCons (tTup (tCons (tOp (rIxL K) (tVar 0) (tOp (rIxT K) (tVar 5) (tC (.int 0)))) (tCons (tOp (rIxL K) (tVar 0) (tOp (rIxT K) (tVar 5) (tC (.int 1)))) tNil))) tNil))) tNext D
            [some (V.ref a1), some (V.ref a2), some (V.ref a3), some (V.ref l), some (nV (t + 1)), some (V.ref b), none] H3 := by
        intro H3 z p D sx3 s4 el3 px3 hp fin
        have okp : TieOk ss.length p ∧ (g c p.1).testBit p.2 = true := by
          rcases hp with rfl | rfl
          · exact ok1
          · exact ok2
        have hmem : (i, j) ∈ [p] ∨ ((i, j).2, (i, j).1) ∈ [p] := by
          rcases hp with rfl | rfl
          · exact .inl (List.mem_singleton.mpr rfl)
          · exact .inr (List.mem_singleton.mpr rfl)
        have hb3 := sx3 _ _ hbl hb0
        walk_at "go"
        refine r_ixL (s4 _ _ h3) (ns_at (show t + 1 < _ by omega)) ?_
        walk_at "go"
        refine ite2 (fun _ => ?_) (fun _ => ?_)
        · walk_at "go"
          refine r_tyL el3 ?_
          walk_at "go"
          refine r_ixT0 0 rfl hb3 rfl ?_
          refine r_ixL (s4 _ _ h1) (sg_at hi) ?_
          walk_at "go"
          refine r_ixT0 1 rfl hb3 rfl ?_
          refine r_ixL (s4 _ _ h1) (sg_at m2) ?_
          walk_at "go"
          refine ⟨by show 2 ≤ sizeLine; decide, fun y ny => ?_⟩
          obtain ⟨s5, ey⟩ := layT ny [V.str (sg ss i), V.str (sg ss j)]
          walk_at "go"
          refine r_append (s5 _ _ el3) (by rw [List.length_append, List.length_singleton]; omega) ?_
          have hyl : y ≠ l := by rintro rfl; rw [el3] at ny; cases ny
          have sy : SX l H3 (upd (upd H3 y (.tup [V.str (sg ss i), V.str (sg ss j)])) l (.lst (xs' ++ [V.ref z] ++ [V.ref y]))) := (Same.sx s5).upd
          refine fin _ _ (ps ++ [p] ++ [(i, j)]) (sx3.trans sy) ((s4.trans s5).chg nl) upd_same (by simp; omega) ?_ ?_
          · refine Paired.snoc (tiex_s sy px3) ⟨⟨ok1.1, y, _, _, rfl, sg_get hi, sg_get m2, .inl ?_⟩, fun e => hyl (V.ref.inj e)⟩
            rw [upd_ne hyl]
            exact ey
          · rw [List.append_assoc]
            refine cv.yes htq (fun r hr => ?_) (.inl ?_)
            · rcases List.mem_append.mp hr with hr | hr
              · rw [List.mem_singleton.mp hr]; exact okp
              · rw [List.mem_singleton.mp hr]; exact ok1
            · exact List.mem_append_right _ (List.mem_singleton.mpr rfl)
        · walk_at "go"
          exact fin _ _ (ps ++ [p]) sx3 s4 el3 (by rw [List.length_append, List.length_singleton]; omega) px3 (cv.yes htq (fun r hr => by rw [List.mem_singleton.mp hr]; exact okp) hmem)
      refine ite2 (fun _ => ?_) (fun _ => ?_)
      · walk_at "go"
        refine r_tyL el ?_
        walk_at "go"
        refine r_ixT0 0 rfl hb rfl ?_
        refine r_ixL (s3 _ _ h1) (sg_at hi) ?_
        walk_at "go"
        refine r_ixT0 1 rfl hb rfl ?_
        refine r_ixL (s3 _ _ h1) (sg_at m2) ?_
        walk_at "go"
        refine ⟨by show 2 ≤ sizeLine; decide, fun y ny => ?_⟩
        obtain ⟨s5, ey⟩ := layT ny [V.str (sg ss i), V.str (sg ss j)]
        walk_at "go"
        refine r_append (s5 _ _ el) hz ?_
        have hyl : y ≠ l := by rintro rfl; rw [el] at ny; cases ny
        have sy : SX l H2 (upd (upd H2 y (.tup [V.str (sg ss i), V.str (sg ss j)])) l (.lst (xs' ++ [V.ref y]))) := (Same.sx s5).upd
        refine rest _ y (i, j) _ (sx.trans sy) ((s3.trans s5).chg nl) upd_same ?_ (.inl rfl) ?_
        · refine Paired.snoc (tiex_s sy px) ⟨⟨ok1.1, y, _, _, rfl, sg_get hi, sg_get m2, .inl ?_⟩, fun e => hyl (V.ref.inj e)⟩
          rw [upd_ne hyl]
          exact ey
        · intro H4 xs2 qs q1 q2 q3 q4 q5 q6
          walk_at "go"
          exact ⟨_, xs2, qs, rfl, q1, q2, q3, q4, q5, q6⟩
      · walk_at "go"
        refine r_tyL el ?_
        walk_at "go"
        refine r_ixT0 1 rfl hb rfl ?_
        refine r_ixL (s3 _ _ h1) (sg_at m2) ?_
        walk_at "go"
        refine r_ixT0 0 rfl hb rfl ?_
        refine r_ixL (s3 _ _ h1) (sg_at hi) ?_
        walk_at "go"
        refine ⟨by show 2 ≤ sizeLine; decide, fun y ny => ?_⟩
        obtain ⟨s5, ey⟩ := layL ny [V.str (sg ss j), V.str (sg ss i)]
        walk_at "go"
        refine r_append (s5 _ _ el) hz ?_
        have hyl : y ≠ l := by rintro rfl; rw [el] at ny; cases ny
        have sy : SX l H2 (upd (upd H2 y (.lst [V.str (sg ss j), V.str (sg ss i)])) l (.lst (xs' ++ [V.ref y]))) := (Same.sx s5).upd
        refine rest _ y (j, i) _ (sx.trans sy) ((s3.trans s5).chg nl) upd_same ?_ (.inr rfl) ?_
        · refine Paired.snoc (tiex_s sy px) ⟨⟨ok2.1, y, _, _, rfl, sg_get m2, sg_get hi, .inr ?_⟩, fun e => hyl (V.ref.inj e)⟩
          rw [upd_ne hyl]
          exact ey
        · intro H4 xs2 qs q1 q2 q3 q4 q5 q6
          walk_at "go"
          exact ⟨_, xs2, qs, rfl, q1, q2, q3, q4, q5, q6⟩
  · rintro σ' H2 ⟨v5, xs', ps, rfl, sx, s3, el, hlen, px, cv⟩
    rw [hxs] at cv
    have hcore := cv.core N.good
    walk_at "go"
    refine r_ixL0 0 rfl (s3 _ _ h3) (ns_at (by omega)) ?_
    walk_at "go"
    refine r_lenL (s3 _ _ h1) ?_
    rw [List.length_map]
    walk_at "go"
    refine ⟨_, _, rfl, rfl, ?_, ?_⟩
    · show (0 : Int) < (ss.length : Int) + 1
      omega
    have em : ∃ k : Nat, ((g row 0 : Nat) : Int) % ((ss.length : Int) + 1) = (k : Int) := ⟨g row 0 % (ss.length + 1), by push_cast; rfl⟩
    obtain ⟨kk, ek⟩ := em
    dsimp only
    rw [ek]
    walk_at "go"
    refine ⟨_, rfl, ?_⟩
    walk_at "go"
    refine sl_L (s3 _ _ h1) fun u1 nu1 => ?_
    rw [cut_lo, ← List.map_drop]
    obtain ⟨s4, eu1⟩ := layL nu1 ((ss.drop kk).map V.str)
    walk_at "go"
    refine ⟨_, rfl, ?_⟩
    refine sl_L (s4 _ _ (s3 _ _ h1)) fun u2 nu2 => ?_
    rw [cut_hi, ← List.map_take]
    obtain ⟨s5, eu2⟩ := layL nu2 ((ss.take kk).map V.str)
    refine ⟨u1, u2, _, _, rfl, rfl, s5 _ _ eu1, eu2, ?_, fun u3 nu3 => ?_⟩
    · rw [List.length_map, List.length_map, List.length_drop, List.length_take]
      exact Nat.le_trans (show _ ≤ 10 by omega) (by decide)
    obtain ⟨s6, eu3⟩ := layL nu3 ((ss.drop kk).map V.str ++ (ss.take kk).map V.str)
    rw [← List.map_append] at eu3 s6 ⊢
    walk_at "go"
    have s7 := s4.trans (s5.trans s6)
    intro x dx hx hdx hnx
    have sm : ∀ b o, (upd (upd (upd H2 u1 (.lst ((ss.drop kk).map V.str))) u2 (.lst ((ss.take kk).map V.str))) u3 (.lst ((ss.drop kk ++ ss.take kk).map V.str))) b = some o → (upd (upd (upd (upd (upd H2 u1 (.lst ((ss.drop kk).map V.str))) u2 (.lst ((ss.take kk).map V.str))) u3 (.lst ((ss.drop kk ++ ss.take kk).map V.str))) dx (.own x)) x (.ins CN dx [])) b = some o := fun b w e => by
      rw [upd_ne (ne_of_none e hx), upd_ne (ne_of_none e hdx)]
      exact e
    refine ⟨x, dx, _, _, ss.drop kk ++ ss.take kk, ss, ps, rfl, upd_same, ⟨u3, rfl, .inl (sm _ _ eu3)⟩, ?_, N.val, N.nd, N.srt, N.five, ⟨l, xs', rfl, sm _ _ (s7 _ _ el), L2.Paired.mapP px fun _ _ r => (r.1.s s7).s sm⟩, fun H' sx n => ⟨rfl, ?_⟩⟩
    · exact List.perm_append_comm.trans (by rw [List.take_append_drop])
    rw [hcore] at n
    exact k _ _ ((s3.trans s7).trans (SX.made hx hdx sx)) ⟨x, rfl, n⟩
/-- the pairs' names so far -/
def namedTo (ss : List Str) (c : Core) (i : Nat) : List (Str × Str) := (((pairs c.length).take i).filter fun p => (g c p.1).testBit p.2).map fun p => (sg ss p.1, sg ss p.2)
theorem namedTo_yes {ss : List Str} {c : Core} {i : Nat} {p : Nat × Nat} (h : (pairs c.length)[i]? = some p) (hb : (g c p.1).testBit p.2 = true) : namedTo ss c (i + 1) = namedTo ss c i ++ [(sg ss p.1, sg ss p.2)] := by
  rw [namedTo, List.take_add_one, h, List.filter_append, List.map_append]
  simp [hb, namedTo]
theorem namedTo_no {ss : List Str} {c : Core} {i : Nat} {p : Nat × Nat} (h : (pairs c.length)[i]? = some p) (hb : (g c p.1).testBit p.2 = false) : namedTo ss c (i + 1) = namedTo ss c i := by
  rw [namedTo, List.take_add_one, h, List.filter_append, List.map_append]
  simp [hb, namedTo]
theorem named_eq (ss : List Str) (c : Core) : namedTo ss c (pairs c.length).length = named ss c := by
  rw [namedTo, List.take_of_length_le (Nat.le_refl _), named, ties]
theorem sg_mem {ss : List Str} {i : Nat} (h : i < ss.length) : sg ss i ∈ ss := List.mem_of_getElem? (sg_get h)
theorem named_lay {ss : List Str} {c : Core} (N : NetP ss c) : ∀ p ∈ named ss c, PyData.canLay0 (.str p.1) = true ∧ PyData.canLay0 (.str p.2) = true := by
  intro p hp
  obtain ⟨q, hq, rfl⟩ := List.mem_map.mp hp
  obtain ⟨m1, m2, _⟩ := (mem_ties N.good.1).mp hq
  exact ⟨(N.val _ (sg_mem (show q.1 < _ by omega))).lay, (N.val _ (sg_mem m2)).lay⟩
def sp_law_is_net (K : PySem.W.Frag) (CN : Addr) : Sp := fun vs H Q _ => ∃ (x a1 a2 : Addr) (ss : List Str) (c : Core), vs = [.ref x, .ref a1, .ref a2] ∧ NetAt CN H x ss c ∧ H a1 = some (.lst (ss.map V.str)) ∧ H a2 = some (.lst (c.map nV)) ∧ NetP ss c ∧ Res H Q fun v _ => v = .bl true
theorem c_law_is_net (B : Bi mg) (T : Glob mg CN CR) (CL : ClsN K CN) (IC : InsC K CN) (c_law_pairs : C8.Cal P w K mg base 1 "_law_pairs" (sp_law_pairs K) []) (c_law_has : C8.Cal P w K mg base 1 "_law_has" (sp_law_has K) [])
    (D : DB K mg "_law_is_net" s_law_is_net ["_law_told", "_law_names_here", "_law_masks_here"]) : C8.Cal P w K mg base 2 "_law_is_net" (sp_law_is_net K CN) [] := by
  obtain ⟨f, fd, F, b⟩ := D.ex
  have nd := sc_law_is_net.nd
  refine C8.cal0 F b .nil sc_law_is_net (fun vs H Q E h => by obtain ⟨x, a1, a2, ss, c, rfl, _⟩ := h; rfl) fun cdv A outer s H vs Q E hr h => ?_
  obtain ⟨x, a1, a2, ss, c, rfl, ⟨dx, p, o, pc, pt, ts, hx, ho, hp, hc, ht, pts⟩, h1, h2, N, k⟩ := h
  have five := N.five
  have hcl := N.good.1
  refine ⟨(tSeq (tIfS (tOr (tNot (tB (tCB (rIsi K) (tCons (tVar 0) (tCons (tC (.ref CN)) tNil))))) (tOr (tNot (tB (tCB (rIsi K) (tCons (tFld K (tVar 0) "points") (tCons (tC (.ty "tuple")) tNil))))) (tNot (tB (tCB (rIsi K) (tCons (tFld K (tVar 0) "ties") (tCons (tC (.ty "tuple")) tNil))))))) (tRet (tC (.bl false))) tNext)
      (tSeq (tAsg (tLc (iList K (tCall (sp_law_pairs K) [] C8.E0 (tCons (tCB (rLenS K) (tCons (tVar 1) tNil)) tNil))) (gName 4) (tB (tCall (sp_law_has K) [] C8.E0 (tCons (tOp (rIxL K) (tVar 2) (tOp (rIxT K) (tVar 4) (tC (.int 0)))) (tCons (tOp (rIxT K) (tVar 4) (tC (.int 1))) tNil)))) (tTup (tCons (tOp (rIxL K) (tVar 1) (tOp (rIxT K) (tVar 4) (tC (.int 0)))) (tCons (tOp (rIxL K) (tVar 1) (tOp (rIxT K) (tVar 4) (tC (.int 1)))) tNil))) [4]) (gName 3))
      (tRet (tAndV (tOp (rEqD K) (tFld K (tVar 0) "points") (tCB (rTupOf K) (tCons (tVar 1) tNil))) (tOp (rEqD K) (tFld K (tVar 0) "ties") (tCB (rTupOf K) (tCons (tVar 3) tNil))))))),
      (pss_cons (ps_if (PW.pt (pw_or (pt_not (pt_val (pe_callB call_isi (by rfl) B.isinstance (by decide +kernel) (pa_cons (pv 0) (pa_cons (C8.pe_gc rfl T.Net) pa_nil))))) (pw_or (pt_not (pt_val (pe_callB call_isi (by rfl) B.isinstance (by decide +kernel) (pa_cons (pe_fld (pv 0) rfl) (pa_cons (pe_bltn (v := .ty "tuple") (by rfl) B.tuple (by decide +kernel) rfl) pa_nil))))) (pw_or1 (pt_not (pt_val (pe_callB call_isi (by rfl) B.isinstance (by decide +kernel) (pa_cons (pe_fld (pv 0) rfl) (pa_cons (pe_bltn (v := .ty "tuple") (by rfl) B.tuple (by decide +kernel) rfl) pa_nil))))))))) (pss_one (ps_ret pe_bl)) pss_nil)
      (pss_cons (ps_setLc (i := 3) (own := [("_law_pair", 4)]) (g := (gName 4)) (tt := (tB (tCall (sp_law_has K) [] C8.E0 (tCons (tOp (rIxL K) (tVar 2) (tOp (rIxT K) (tVar 4) (tC (.int 0)))) (tCons (tOp (rIxT K) (tVar 4) (tC (.int 1))) tNil))))) (te := (tTup (tCons (tOp (rIxL K) (tVar 1) (tOp (rIxT K) (tVar 4) (tC (.int 0)))) (tCons (tOp (rIxL K) (tVar 1) (tOp (rIxT K) (tVar 4) (tC (.int 1)))) tNil)))) rfl nd rfl rfl (sw_true rfl rfl rfl (by decide +kernel)) (pi_list (C8.pe_c c_law_pairs hr (by decide) rfl (pa_cons (pe_callB call_len_seq (by rfl) B.len PySem.boot_len (pa_cons (pv 1) pa_nil)) pa_nil))) (blkOk_by (N := ["_law_told", "_law_names_here", "_law_masks_here", "_law_due_here", "_law_pair"]) (sc := C8.fnScope s_law_is_net) (own := [("_law_pair", 4)]) (by decide +kernel)) (fun _ _ _ _ _ => (pg_name (i := 4) nd rfl (by first | exact Or.inl rfl | exact Or.inr rfl))) (fun _ _ _ _ _ => (pts_one (pt_val (C8.pe_c c_law_has hr (by decide) rfl (pa_cons (pe_ix ix_list (pv 2) (pe_ix ix_tup (pv 4) pe_int (fun _ _ => rfl)) (fun _ _ => rfl)) (pa_cons (pe_ix ix_tup (pv 4) pe_int (fun _ _ => rfl)) pa_nil)))))) (fun _ _ _ _ _ => (pe_tup (pa_cons (pe_ix ix_list (pv 1) (pe_ix ix_tup (pv 4) pe_int (fun _ _ => rfl)) (fun _ _ => rfl)) (pa_cons (pe_ix ix_list (pv 1) (pe_ix ix_tup (pv 4) pe_int (fun _ _ => rfl)) (fun _ _ => rfl)) pa_nil)))))
      (pss_one (ps_ret (pe_and (pe_cmpR (op_eqD hr.units) (pe_fld (pv 0) rfl) (pe_callTy call_tuple_of (by rfl) B.tuple (by decide +kernel) (pa_cons (pv 1) pa_nil)) (nomark _)) (pe_one (pe_cmpR (op_eqD hr.units) (pe_fld (pv 0) rfl) (pe_callTy call_tuple_of (by rfl) B.tuple (by decide +kernel) (pa_cons (pv 3) pa_nil)) (nomark _)))))))), ?_⟩
  change tSeq _ _ _ [some (V.ref x), some (V.ref a1), some (V.ref a2), none, none] H
  walk_at "go"
  refine r_isO CL.cls IC hx ?_
  walk_at "go"
  refine iteF ?_
  walk_at "go"
  refine r_fld hx CL.cls CL.points rfl ?_
  walk_at "go"
  refine r_isF hp ?_
  walk_at "go"
  refine iteF ?_
  walk_at "go"
  refine r_fld hx CL.cls CL.ties rfl ?_
  walk_at "go"
  refine r_isT ht ?_
  walk_at "go"
  refine iteF ?_
  walk_at "go"
  refine r_lenL h1 ?_
  rw [List.length_map]
  walk_at "go"
  refine ⟨ss.length, rfl, by omega, fun v H1 s2 hv => ?_⟩
  obtain ⟨pl, xs, rfl, npl, hpl, pxs⟩ := hv
  have hxs := Paired.length pxs
  have hpf := pairs_len ss.length five
  rw [← hcl] at pxs hxs hpf
  refine c_l (xs := xs) (fun i acc H' => Paired (PS2 H') acc (namedTo ss c i)) (fun _ _ _ _ e r => ps2_t e r) hpl .nil (fun D acc i y H' hD hy hi s e z r => ?_) (fun l H6 acc nl s6 el _ ea => ?_)
  · have htq := List.getElem?_eq_getElem (show i < (pairs c.length).length by omega)
    obtain ⟨y', hy', bb, rfl, hbb⟩ := K81.Paired.get pxs htq
    rw [hy] at hy'
    cases hy'
    obtain ⟨m1, m2⟩ := mem_pairs.mp (List.getElem_mem (show i < (pairs c.length).length by omega))
    generalize (pairs c.length)[i] = q at *
    obtain ⟨q1, q2⟩ := q
    simp only at m1 m2 hbb
    refine ⟨rfl, ?_⟩
    walk_at "go"
    refine r_ixT0 0 rfl (s _ _ hbb) rfl ?_
    refine r_ixL (s _ _ (s2 _ _ h2)) (ns_at (by omega)) ?_
    walk_at "go"
    refine r_ixT0 1 rfl (s _ _ hbb) rfl ?_
    walk_at "go"
    refine ⟨_, _, rfl, ?_⟩
    walk_at "go"
    cases hbit : (g c q1).testBit q2 with
    | false =>
      refine iteF ?_
      exact lc_no s e z (by rw [namedTo_no htq hbit]; exact r)
    | true =>
      refine iteT ?_
      walk_at "go"
      refine r_ixT0 0 rfl (s _ _ hbb) rfl ?_
      refine r_ixL (s _ _ (s2 _ _ h1)) (sg_at (show q1 < _ by omega)) ?_
      walk_at "go"
      refine r_ixT0 1 rfl (s _ _ hbb) rfl ?_
      refine r_ixL (s _ _ (s2 _ _ h1)) (sg_at (show q2 < _ by omega)) ?_
      walk_at "go"
      refine ⟨by show 2 ≤ sizeLine; decide, fun q nq => ?_⟩
      obtain ⟨s6, eq⟩ := layT nq [V.str (sg ss q1), V.str (sg ss q2)]
      refine lc_yes (fun _ _ _ _ e r => ps2_t e r) hD (s.trans s6) (s6 _ _ e) z (by omega) ?_
      rw [namedTo_yes htq hbit]
      exact Paired.snoc (ps2_t s6.tup r) ⟨q, rfl, eq⟩
  rw [hxs, named_eq] at ea
  have sA := s2.trans s6
  walk_at "go"
  refine r_andV ?_
  walk_at "go"
  refine r_fld (sA _ _ hx) CL.cls CL.points rfl ?_
  walk_at "go"
  refine r_tupOf (sA _ _ h1) fun q nq => ?_
  obtain ⟨s7, eq⟩ := layT nq (ss.map V.str)
  refine r_eqS (fun s hs => (N.val s hs).lay) (sqF (s7 _ _ (sA _ _ hp))) (SqT.of eq) ?_
  refine ⟨true, rfl, ?_⟩
  refine iteT ?_
  have sB := sA.trans s7
  walk_at "go"
  refine r_fld (sB _ _ hx) CL.cls CL.ties rfl ?_
  walk_at "go"
  refine r_tupOf (s7 _ _ el) fun q2 nq2 => ?_
  obtain ⟨s8, eq2⟩ := layT nq2 acc
  refine r_eqP (named_lay N) (SqT.of (s8 _ _ (sB _ _ ht))) (SqT.of eq2) (ps2_t (sB.trans s8).tup pts) (ps2_t (s7.trans s8).tup ea) ?_
  exact k _ _ (sB.trans s8) rfl
end
end K81
end

section
open PySem PySem.Spec PyProof.Rows L2

namespace K81
section
variable {H : Hp} {Q : VK} {i j : Int}
theorem r_mulR (h1 : -(2 ^ 64) < j) (h2 : j < 2 ^ 64) (q : Q (.int (i * j)) H) : rMulI (.int i) (.int j) H Q := ⟨i, j, rfl, rfl, .inr ⟨h1, h2⟩, q⟩
theorem r_mulL (h1 : -(2 ^ 64) < i) (h2 : i < 2 ^ 64) (q : Q (.int (i * j)) H) : rMulI (.int i) (.int j) H Q := ⟨i, j, rfl, rfl, .inl ⟨h1, h2⟩, q⟩
theorem r_mod (h : 0 < j) (q : Q (.int (i % j)) H) : rModI (.int i) (.int j) H Q := ⟨i, j, rfl, rfl, h, q⟩
theorem r_div (h : 0 < j) (h2 : j < 2 ^ 62) (q : Q (.int (i / j)) H) : rDivI (.int i) (.int j) H Q := ⟨i, j, rfl, rfl, wide_div (b := 62) h (by omega) (by decide) (by decide), q⟩
theorem r_modN {n m : Nat} (h : 0 < m) (q : Q (nV (n % m)) H) : rModI (nV n) (nV m) H Q := ⟨n, m, rfl, rfl, by omega, by push_cast at q ⊢; exact q⟩
theorem r_divN {n m : Nat} (h : 0 < m) (h2 : m < 2 ^ 62) (q : Q (nV (n / m)) H) : rDivI (nV n) (nV m) H Q := ⟨n, m, rfl, rfl, wide_div (b := 62) (by omega) (by omega) (by decide) (by decide), by push_cast at q ⊢; exact q⟩
/-- a rest of a whole number by a positive one, as a nat below it -/
theorem mod_nat {z : Int} {n : Nat} (h : 0 < n) : ∃ k : Nat, z % (n : Int) = (k : Int) ∧ k < n := by
  have h1 := Int.emod_nonneg z (b := (n : Int)) (by omega)
  have h2 := Int.emod_lt_of_pos z (b := (n : Int)) (by omega)
  exact ⟨(z % (n : Int)).toNat, by omega, by omega⟩
theorem r_modZ {n : Nat} (h : 0 < n) (q : ∀ k : Nat, k < n → Q (nV k) H) : rModI (.int i) (nV n) H Q := by
  obtain ⟨k, e, hk⟩ := mod_nat (z := i) h
  refine ⟨i, n, rfl, rfl, by omega, ?_⟩
  show Q (.int (i % (n : Int))) H
  rw [e]
  exact q k hk
end
/-! ### lists as they are read, however they lie -/
theorem sqL_s {K : PySem.W.Frag} {H H' : Hp} {a : Addr} {xs : List V} (e : Same H H') (h : SqL K H a xs) : SqL K H' a xs := by
  rcases h with (h | ⟨o, h⟩) | h
  · exact .inl (.inl (e _ _ h))
  · exact .inl (.inr ⟨o, e _ _ h⟩)
  · exact .inr h
section
variable {D : Ends} {σ : L2.St} {H : Hp} {tb : TS} {gt : TG} {K : PySem.W.Frag} {Q : VK} {v : V}
theorem r_lenLS {p : Addr} {xs : List V} (h : SqL K H p xs) (q : Q (nV xs.length) H) : rLenS K [.ref p] H Q := ⟨p, xs, rfl, .inl h, q⟩
theorem r_ixLS {p : Addr} {xs : List V} {i : Nat} (h : SqL K H p xs) (hi : xs[i]? = some v) (q : Q v H) : rIxL K (.ref p) (nV i) H Q := ⟨p, xs, _, v, rfl, rfl, h, atI_nat hi, q⟩
theorem w_lS {a : Addr} {xs : List V} (Pv : Nat → L2.St → Hp → Prop) (ha : SqL K H a xs) (h0 : Pv 0 σ H) (hG : ∀ i σ' H', i ≤ xs.length → Pv i σ' H' → SqL K H' a xs)
    (hs : ∀ i x σ' H', xs[i]? = some x → Pv i σ' H' → gt x σ' H' fun σ2 H2 => tb { D with nx := Pv (i + 1), ct := Pv (i + 1), bk := D.nx } σ2 H2) (hd : ∀ σ' H', Pv xs.length σ' H' → D.nx σ' H') :
    ∃ a', V.ref a = .ref a' ∧ (∃ xs, SqL K H a' xs) ∧ ForW (Itl K a') gt tb D σ H :=
  ⟨a, rfl, ⟨xs, ha⟩, for_list Pv h0 hG hs hd⟩
end
local macro_rules | `(tactic| walk_at "s1") => `(tactic| first
  | with_reducible refine r_seq ?_
  | with_reducible refine r_asg ?_
  | with_reducible refine r_ret ?_
  | with_reducible refine r_if ?_
  | with_reducible refine r_app ?_
  | with_reducible refine r_drop ?_
  | with_reducible refine r_asgS ?_
  | with_reducible refine r_op ?_
  | with_reducible refine r_c ?_
  | ((with_reducible refine' r_var ?hv ?_); (case hv => exact rfl))
  | with_reducible refine r_cb ?_
  | with_reducible refine r_cons ?_
  | with_reducible refine r_nil ?_
  | with_reducible refine r_test ?_
  | with_reducible refine r_tB ?_
  | with_reducible refine r_not ?_
  | with_reducible refine r_and ?_
  | with_reducible refine r_or ?_
  | with_reducible refine r_call ?_
  | with_reducible refine r_tup ?_
  | with_reducible refine r_for1 ?_
  | with_reducible refine r_for2 ?_
  | with_reducible refine r_forT ?_
  | with_reducible refine r_forL ?_
  | with_reducible refine r_lc1 ?_
  | with_reducible refine r_lcT ?_
  | with_reducible refine r_lcL ?_
  | with_reducible refine r_lcE ?_
  | with_reducible refine r_lst ?_
  | with_reducible refine r_yes ?_
  | with_reducible refine r_next ?_
  | with_reducible refine r_nat ?_
  | with_reducible refine r_nat1 ?_
  | with_reducible refine r_i0 ?_
  | with_reducible refine r_int1 ?_
  | ((with_reducible refine' r_eq ?hs ?_); (case hs => exact rfl))
  | ((with_reducible refine' r_ne ?hs ?_); (case hs => exact rfl))
  | with_reducible refine r_bitT ?_
  | with_reducible refine r_tfld ?_
  | with_reducible refine r_tsfld ?_
  | with_reducible refine r_make ?_
  | with_reducible refine r_sl ?_
  | with_reducible refine r_part ?_
  | with_reducible refine r_nopart ?_
  | with_reducible refine r_callK ?_
  | with_reducible refine r_gN ?_
  | with_reducible refine r_din ?_
  | with_reducible refine r_dnin ?_
  | with_reducible refine r_dget ?_
  | with_reducible refine r_dput ?_
  | ((with_reducible refine' r_aug ?hv ?_); (case hv => exact rfl))
  | with_reducible refine r_bl ?_)
local macro_rules | `(tactic| walk_at "go") => `(tactic| repeat walk_at "s1")

abbrev s_law_cell : Stmt := topS 36
theorem sc_law_cell : FnScope ["_law_script", "_law_k", "_law_seed", "_law_cell_here"] ["_law_script", "_law_k"] (C8.fnScope s_law_cell) := C8.fnScope_by (by decide +kernel)
abbrev s_law_digits : Stmt := topS 37
theorem sc_law_digits : FnScope ["_law_cell_here", "_law_sizes", "_law_row", "_law_rest", "_law_size", "_law_seed", "_law_k", "_law_twice"] ["_law_cell_here", "_law_sizes"] (C8.fnScope s_law_digits) := C8.fnScope_by (by decide +kernel)

section
variable {P : Program} {w : World} {K : PySem.W.Frag} {mg : Str → Option Value} {base : Heap} {CN CR : Addr}
def sp_law_cell (K : PySem.W.Frag) : Sp := fun vs H Q _ => ∃ (p : Addr) (zs : List Int) (j : Nat), vs = [.ref p, nV j] ∧ SqL K H p (zs.map V.int) ∧ j ≤ 1000 ∧ ∀ z : Int, Q (.int z) H
theorem c_law_cell (B : Bi mg) (D : DB K mg "_law_cell" s_law_cell ["_law_script", "_law_k"]) : C8.Cal P w K mg base 1 "_law_cell" (sp_law_cell K) [] := by
  obtain ⟨f, fd, F, b⟩ := D.ex
  have nd := sc_law_cell.nd
  refine C8.cal0 F b .nil sc_law_cell (fun vs H Q E h => by obtain ⟨p, zs, j, rfl, _⟩ := h; rfl) fun cdv A outer s H vs Q E hr h => ?_
  obtain ⟨p, zs, j, rfl, hp, hj, k⟩ := h
  refine ⟨(tSeq (tIfS (tTest (tOp rLtI (tVar 1) (tCB (rLenS K) (tCons (tVar 0) tNil)))) (tRet (tOp (rIxL K) (tVar 0) (tVar 1))) tNext)
      (tSeq (tAsg (tC (.int 17)) (gName 2))
      (tSeq (tFor (iList K (tVar 0)) (gName 3) (tAsg (tOp rModI (tCB rInt1 (tCons (tOp rAddI (tOp rMulI (tVar 2) (tC (.int 31))) (tOp rModI (tCB rInt1 (tCons (tVar 3) tNil)) (tC (.int 1000003)))) tNil)) (tC (.int 1000003))) (gName 2)))
      (tRet (tOp rModI (tCB rInt1 (tCons (tOp rMulI (tOp rMulI (tOp rAddI (tVar 2) (tC (.int 7))) (tOp rAddI (tVar 1) (tC (.int 3)))) (tC (.int 69621))) tNil)) (tC (.int 2147483647))))))),
      (pss_cons (ps_if (pt_cmpR op_lt (pv 1) (pe_callB call_len_seq (by rfl) B.len PySem.boot_len (pa_cons (pv 0) pa_nil)) (nomark _)) (pss_one (ps_ret (pe_ix ix_list (pv 0) (pv 1) (fun _ _ => rfl)))) pss_nil)
      (pss_cons (ps_set (i := 2) nd rfl (by first | exact Or.inl rfl | exact Or.inr rfl) pe_int)
      (pss_cons (ps_for PassesOwn.never rfl (pi_list (pv 0)) (pg_name (i := 3) nd rfl (by first | exact Or.inl rfl | exact Or.inr rfl)) (pss_one (ps_set (i := 2) nd rfl (by first | exact Or.inl rfl | exact Or.inr rfl) (pe_op op_mod (pe_callTy call_int1 (by rfl) B.int (by decide +kernel) (pa_cons (pe_op op_add (pe_op op_mul (pv 2) pe_int) (pe_op op_mod (pe_callTy call_int1 (by rfl) B.int (by decide +kernel) (pa_cons (pv 3) pa_nil)) pe_int)) pa_nil)) pe_int))))
      (pss_one (ps_ret (pe_op op_mod (pe_callTy call_int1 (by rfl) B.int (by decide +kernel) (pa_cons (pe_op op_mul (pe_op op_mul (pe_op op_add (pv 2) pe_int) (pe_op op_add (pv 1) pe_int)) pe_int) pa_nil)) pe_int)))))), ?_⟩
  change tSeq _ _ _ [some (V.ref p), some (nV j), none, none] H
  walk_at "go"
  refine r_lenLS hp ?_
  walk_at "go"
  rw [List.length_map]
  refine ite2 (fun hb => ?_) (fun hb => ?_)
  · have hlt : j < zs.length := by
      have := of_decide_eq_true hb
      omega
    walk_at "go"
    refine r_ixLS hp (v := .int zs[j]) (by rw [List.getElem?_map, List.getElem?_eq_getElem hlt]; rfl) ?_
    exact k _
  walk_at "go"
  refine w_lS (fun i σ' H' => ∃ v3 s, σ' = [some (V.ref p), some (nV j), some (V.int s), v3] ∧ H' = H ∧ 0 ≤ s ∧ s < 1000003) hp ⟨_, 17, rfl, rfl, by decide, by decide⟩ ?_ ?_ ?_
  · rintro i σ' H' _ ⟨_, _, rfl, rfl, _⟩
    exact hp
  · rintro i x σ' H' hx ⟨v3, s, rfl, rfl, h1, h2⟩
    obtain ⟨z, hz, rfl⟩ : ∃ z, zs[i]? = some z ∧ x = V.int z := by
      rw [List.getElem?_map] at hx
      cases hz : zs[i]? with
      | none => rw [hz] at hx; cases hx
      | some z => rw [hz] at hx; cases hx; exact ⟨z, rfl, rfl⟩
    walk_at "go"
    refine r_mulR (by decide) (by decide) ?_
    walk_at "go"
    refine r_mod (by decide) ?_
    walk_at "go"
    refine r_mod (by decide) ?_
    exact ⟨_, _, rfl, rfl, Int.emod_nonneg _ (by decide), Int.emod_lt_of_pos _ (by decide)⟩
  · rintro σ' H' ⟨v3, s, rfl, rfl, h1, h2⟩
    walk_at "go"
    refine r_mulR (by omega) (by omega) ?_
    walk_at "go"
    refine r_mulR (by decide) (by decide) ?_
    walk_at "go"
    refine r_mod (by decide) ?_
    exact k _
def Dig (H : Hp) (v : V) (ns : List Nat) : Prop := ∃ ds : List Nat, IL H v ds ∧ ds.length = ns.length ∧ ∀ i, i < ns.length → g ds i < g ns i
def sp_law_digits (K : PySem.W.Frag) : Sp := fun vs H Q _ => ∃ (z : Int) (p : Addr) (ns : List Nat), vs = [.int z, .ref p] ∧ H p = some (.lst (ns.map nV)) ∧ (∀ n ∈ ns, 0 < n ∧ n < 2 ^ 62) ∧ ns.length ≤ 1000 ∧ Res H Q fun v H' => Dig H' v ns
theorem digs_snoc {ds ns : List Nat} {i k : Nat} (hd : ds.length = i) (h : ∀ t, t < i → g ds t < g ns t) (hk : k < g ns i) : ∀ t, t < i + 1 → g (ds ++ [k]) t < g ns t := by
  intro t ht
  by_cases e : t < i
  · rw [g, List.getD, List.getElem?_append_left (by omega)]
    exact h t e
  · have e : t = i := by omega
    subst e
    rw [g, List.getD, List.getElem?_append_right (by omega), hd, Nat.sub_self]
    exact hk
theorem c_law_digits (B : Bi mg) (D : DB K mg "_law_digits" s_law_digits ["_law_cell_here", "_law_sizes"]) : C8.Cal P w K mg base 1 "_law_digits" (sp_law_digits K) [] := by
  obtain ⟨f, fd, F, b⟩ := D.ex
  have nd := sc_law_digits.nd
  refine C8.cal0 F b .nil sc_law_digits (fun vs H Q E h => by obtain ⟨z, p, ns, rfl, _⟩ := h; rfl) fun cdv A outer s H vs Q E hr h => ?_
  obtain ⟨z, p, ns, rfl, hp, hn, hl, k⟩ := h
  refine ⟨(tSeq (tAsg (tLst tNil) (gName 2))
      (tSeq (tAsg (tCB rInt1 (tCons (tVar 0) tNil)) (gName 3))
      (tSeq (tIfS (tTest (tOp rGeI (tVar 3) (tOp rPowI (tC (.int 10)) (tC (.int 18))))) (tSeq (tAsg (tOp rSubI (tVar 3) (tOp rPowI (tC (.int 10)) (tC (.int 18)))) (gName 3))
        (tSeq (tFor (iList K (tVar 1)) (gName 4) (tSeq (tDrop (tBM K "list" rAppend (tVar 2) (tCons (tOp rModI (tCB rInt1 (tCons (tVar 3) tNil)) (tVar 4)) tNil)))
          (tAsg (tOp rDivI (tCB rInt1 (tCons (tVar 3) tNil)) (tVar 4)) (gName 3))))
        (tRet (tVar 2)))) tNext)
      (tSeq (tAsg (tOp rModI (tCB rInt1 (tCons (tVar 3) tNil)) (tC (.int 2147483629))) (gName 5))
      (tSeq (tFor (iRng1 (tCons (tCB (rLenS K) (tCons (tVar 1) tNil)) tNil)) (gName 6) (tSeq (tAsg (tOp rModI (tCB rInt1 (tCons (tOp rAddI (tOp rAddI (tOp rMulI (tVar 5) (tC (.int 48271))) (tOp rMulI (tC (.int 974711)) (tVar 6))) (tC (.int 12345))) tNil)) (tC (.int 2147483647))) (gName 5))
        (tSeq (tAsg (tOp rModI (tCB rInt1 (tCons (tOp rMulI (tVar 5) (tOp rAddI (tOp rDivI (tVar 5) (tC (.int 65537))) (tC (.int 3)))) tNil)) (tC (.int 2147483629))) (gName 7))
        (tDrop (tBM K "list" rAppend (tVar 2) (tCons (tOp rModI (tOp rDivI (tVar 7) (tC (.int 19))) (tOp (rIxL K) (tVar 1) (tVar 6))) tNil))))))
      (tRet (tVar 2))))))),
      (pss_cons (ps_set (i := 2) nd rfl (by first | exact Or.inl rfl | exact Or.inr rfl) (pe_lst pa_nil))
      (pss_cons (ps_set (i := 3) nd rfl (by first | exact Or.inl rfl | exact Or.inr rfl) (pe_callTy call_int1 (by rfl) B.int (by decide +kernel) (pa_cons (pv 0) pa_nil)))
      (pss_cons (ps_if (pt_cmpR op_ge (pv 3) (pe_op op_pow pe_int pe_int) (nomark _)) (pss_cons (ps_set (i := 3) nd rfl (by first | exact Or.inl rfl | exact Or.inr rfl) (pe_op op_sub (pv 3) (pe_op op_pow pe_int pe_int)))
        (pss_cons (ps_for PassesOwn.never rfl (pi_list (pv 1)) (pg_name (i := 4) nd rfl (by first | exact Or.inl rfl | exact Or.inr rfl)) (pss_cons (ps_expr (pe_bm PySem.F.plainAttrs_list PySem.F.slot_list_append PySem.F.type_list_append mt_append (pv 2) (pa_cons (pe_op op_mod (pe_callTy call_int1 (by rfl) B.int (by decide +kernel) (pa_cons (pv 3) pa_nil)) (pv 4)) pa_nil)))
          (pss_one (ps_set (i := 3) nd rfl (by first | exact Or.inl rfl | exact Or.inr rfl) (pe_op op_fdivW (pe_callTy call_int1 (by rfl) B.int (by decide +kernel) (pa_cons (pv 3) pa_nil)) (pv 4))))))
        (pss_one (ps_ret (pv 2))))) pss_nil)
      (pss_cons (ps_set (i := 5) nd rfl (by first | exact Or.inl rfl | exact Or.inr rfl) (pe_op op_mod (pe_callTy call_int1 (by rfl) B.int (by decide +kernel) (pa_cons (pv 3) pa_nil)) pe_int))
      (pss_cons (ps_for PassesOwn.never rfl (pi_range1 (by rfl) B.range (pa_cons (pe_callB call_len_seq (by rfl) B.len PySem.boot_len (pa_cons (pv 1) pa_nil)) pa_nil)) (pg_name (i := 6) nd rfl (by first | exact Or.inl rfl | exact Or.inr rfl)) (pss_cons (ps_set (i := 5) nd rfl (by first | exact Or.inl rfl | exact Or.inr rfl) (pe_op op_mod (pe_callTy call_int1 (by rfl) B.int (by decide +kernel) (pa_cons (pe_op op_add (pe_op op_add (pe_op op_mul (pv 5) pe_int) (pe_op op_mul pe_int (pv 6))) pe_int) pa_nil)) pe_int))
        (pss_cons (ps_set (i := 7) nd rfl (by first | exact Or.inl rfl | exact Or.inr rfl) (pe_op op_mod (pe_callTy call_int1 (by rfl) B.int (by decide +kernel) (pa_cons (pe_op op_mul (pv 5) (pe_op op_add (pe_op op_fdivW (pv 5) pe_int) pe_int)) pa_nil)) pe_int))
        (pss_one (ps_expr (pe_bm PySem.F.plainAttrs_list PySem.F.slot_list_append PySem.F.type_list_append mt_append (pv 2) (pa_cons (pe_op op_mod (pe_op op_fdivW (pv 7) pe_int) (pe_ix ix_list (pv 1) (pv 6) (fun _ _ => rfl))) pa_nil)))))))
      (pss_one (ps_ret (pv 2)))))))), ?_⟩
  change tSeq _ _ _ [some (V.int z), some (V.ref p), none, none, none, none, none, none] H
  walk_at "go"
  refine ⟨Nat.zero_le _, fun l nl => ?_⟩
  obtain ⟨s1, el⟩ := layL nl []
  walk_at "go"
  refine ⟨10, 18, rfl, rfl, ⟨by decide, by decide, by decide⟩, ?_⟩
  walk_at "go"
  refine ite2 (fun hb => ?_) (fun hb => ?_)
  · walk_at "go"
    refine ⟨10, 18, rfl, rfl, ⟨by decide, by decide, by decide⟩, ?_⟩
    walk_at "go"
    refine w_l (fun i σ' H' => ∃ r v4 ds, σ' = [some (V.int z), some (V.ref p), some (V.ref l), some (V.int r), v4, none, none, none] ∧ Same H H' ∧ H' l = some (.lst (ds.map nV)) ∧ ds.length = i ∧ ∀ t, t < i → g ds t < g ns t) (s1 _ _ hp) ?_ ?_ ?_ ?_
    · exact ⟨_, _, [], rfl, s1, el, rfl, fun t ht => by omega⟩
    · rintro i σ' H' _ ⟨_, _, _, rfl, s2, _⟩
      exact s2 _ _ hp
    · rintro i x σ' H' hx ⟨r, v4, ds, rfl, s2, el, hdl, hds⟩
      have hi : i < ns.length := by
        have := (List.getElem?_eq_some_iff.mp hx).1
        rw [List.length_map] at this
        exact this
      rw [ns_at hi] at hx
      cases hx
      obtain ⟨hn1, hn2⟩ := hn (g ns i) (List.mem_of_getElem? (g_get hi))
      walk_at "go"
      refine r_tyL el ?_
      walk_at "go"
      refine r_modZ hn1 fun kk hkk => ?_
      walk_at "go"
      refine r_append el (by rw [List.length_map]; omega) ?_
      walk_at "go"
      refine r_div (by omega) (by omega) ?_
      refine ⟨_, _, ds ++ [kk], rfl, s2.chg nl, ?_, by rw [List.length_append, List.length_singleton, hdl], digs_snoc hdl hds hkk⟩
      rw [upd_same, List.map_append]
      rfl
    · rintro σ' H' ⟨r, v4, ds, rfl, s2, el, hdl, hds⟩
      rw [List.length_map] at hdl hds
      walk_at "go"
      exact k _ _ s2 ⟨ds, ⟨l, rfl, el⟩, hdl, hds⟩
  · walk_at "go"
    refine r_mod (by decide) ?_
    walk_at "go"
    refine r_lenL (s1 _ _ hp) ?_
    rw [List.length_map]
    refine w_r1 (fun i σ' H' => ∃ sd v6 v7 ds, σ' = [some (V.int z), some (V.ref p), some (V.ref l), some (V.int z), none, some (V.int sd), v6, v7] ∧ Same H H' ∧ H' l = some (.lst (ds.map nV)) ∧ ds.length = i ∧ (∀ t, t < i → g ds t < g ns t) ∧ 0 ≤ sd ∧ sd < 2147483647) (by omega) ?_ ?_ ?_
    · exact ⟨_, _, _, [], rfl, s1, el, rfl, (fun t ht => by omega), Int.emod_nonneg _ (by decide), by have := Int.emod_lt_of_pos z (b := 2147483629) (by decide); omega⟩
    · rintro i σ' H' hi ⟨sd, v6, v7, ds, rfl, s2, el, hdl, hds, h1, h2⟩
      obtain ⟨hn1, hn2⟩ := hn (g ns i) (List.mem_of_getElem? (g_get hi))
      walk_at "go"
      refine r_mulR (by decide) (by decide) ?_
      walk_at "go"
      refine r_mulL (by decide) (by decide) ?_
      walk_at "go"
      refine r_mod (by decide) ?_
      have h3 := Int.emod_nonneg (sd * 48271 + 974711 * (i : Int) + 12345) (b := 2147483647) (by decide)
      have h4 := Int.emod_lt_of_pos (sd * 48271 + 974711 * (i : Int) + 12345) (b := 2147483647) (by decide)
      generalize (sd * 48271 + 974711 * (i : Int) + 12345) % 2147483647 = sd2 at *
      walk_at "go"
      refine r_div (by decide) (by decide) ?_
      walk_at "go"
      refine r_mulL (by omega) (by omega) ?_
      walk_at "go"
      refine r_mod (by decide) ?_
      walk_at "go"
      refine r_tyL el ?_
      walk_at "go"
      refine r_div (by decide) (by decide) ?_
      walk_at "go"
      refine r_ixL (s2 _ _ hp) (ns_at hi) ?_
      refine r_modZ hn1 fun kk hkk => ?_
      walk_at "go"
      refine r_append el (by rw [List.length_map]; omega) ?_
      refine ⟨_, _, _, ds ++ [kk], rfl, s2.chg nl, ?_, by rw [List.length_append, List.length_singleton, hdl], digs_snoc hdl hds hkk, h3, h4⟩
      rw [upd_same, List.map_append]
      rfl
    · rintro σ' H' ⟨sd, v6, v7, ds, rfl, s2, el, hdl, hds, h1, h2⟩
      walk_at "go"
      exact k _ _ s2 ⟨ds, ⟨l, rfl, el⟩, hdl, hds⟩
end
end K81
end

section
open PySem PySem.Spec PyProof.Rows L2

namespace K81
local macro_rules | `(tactic| walk_at "s1") => `(tactic| first
  | with_reducible refine r_seq ?_
  | with_reducible refine r_asg ?_
  | with_reducible refine r_ret ?_
  | with_reducible refine r_if ?_
  | with_reducible refine r_app ?_
  | with_reducible refine r_drop ?_
  | with_reducible refine r_asgS ?_
  | with_reducible refine r_op ?_
  | with_reducible refine r_c ?_
  | ((with_reducible refine' r_var ?hv ?_); (case hv => exact rfl))
  | with_reducible refine r_cb ?_
  | with_reducible refine r_cons ?_
  | with_reducible refine r_nil ?_
  | with_reducible refine r_test ?_
  | with_reducible refine r_tB ?_
  | with_reducible refine r_not ?_
  | with_reducible refine r_and ?_
  | with_reducible refine r_or ?_
  | with_reducible refine r_call ?_
  | with_reducible refine r_tup ?_
  | with_reducible refine r_for1 ?_
  | with_reducible refine r_for2 ?_
  | with_reducible refine r_forT ?_
  | with_reducible refine r_forL ?_
  | with_reducible refine r_lc1 ?_
  | with_reducible refine r_lcT ?_
  | with_reducible refine r_lcL ?_
  | with_reducible refine r_lcE ?_
  | with_reducible refine r_lst ?_
  | with_reducible refine r_yes ?_
  | with_reducible refine r_next ?_
  | with_reducible refine r_nat ?_
  | with_reducible refine r_nat1 ?_
  | with_reducible refine r_i0 ?_
  | with_reducible refine r_int1 ?_
  | ((with_reducible refine' r_eq ?hs ?_); (case hs => exact rfl))
  | ((with_reducible refine' r_ne ?hs ?_); (case hs => exact rfl))
  | with_reducible refine r_bitT ?_
  | with_reducible refine r_tfld ?_
  | with_reducible refine r_tsfld ?_
  | with_reducible refine r_make ?_
  | with_reducible refine r_sl ?_
  | with_reducible refine r_part ?_
  | with_reducible refine r_nopart ?_
  | with_reducible refine r_callK ?_
  | with_reducible refine r_gN ?_
  | with_reducible refine r_din ?_
  | with_reducible refine r_dnin ?_
  | with_reducible refine r_dget ?_
  | with_reducible refine r_dput ?_
  | ((with_reducible refine' r_aug ?hv ?_); (case hv => exact rfl))
  | with_reducible refine r_bl ?_)
local macro_rules | `(tactic| walk_at "go") => `(tactic| repeat walk_at "s1")

abbrev s_law_masks : Stmt := topS 40
theorem sc_law_masks : FnScope ["_law_row", "_law_many", "_law_masks_here", "_law_at", "_law_level", "_law_pair", "_law_k", "_law_near"] ["_law_row", "_law_many"] (C8.fnScope s_law_masks) := C8.fnScope_by (by decide +kernel)
abbrev s_law_second : Stmt := topS 51
theorem sc_law_second : FnScope ["_law_masks_here", "_law_row", "_law_drawn", "_law_size", "_law_after", "_law_digit", "_law_pairs_here", "_law_pair", "_law_orders_here"] ["_law_masks_here", "_law_row", "_law_drawn"] (C8.fnScope s_law_second) := C8.fnScope_by (by decide +kernel)

theorem pairs_nd {n : Nat} (h : n ≤ 5) : (pairs n).Nodup := by
  have : n = 0 ∨ n = 1 ∨ n = 2 ∨ n = 3 ∨ n = 4 ∨ n = 5 := by omega
  rcases this with rfl | rfl | rfl | rfl | rfl | rfl <;> decide
/-- the pairs from the t-th on are not tied -/
def Clear (n : Nat) (c : Core) (t : Nat) : Prop := ∀ s q, t ≤ s → (pairs n)[s]? = some q → (g c q.1).testBit q.2 = false
theorem Clear.next {n : Nat} {c : Core} {t : Nat} (h : Clear n c t) : Clear n c (t + 1) := fun s q hs hq => h s q (by omega) hq
theorem Clear.tie {n : Nat} {c : Core} {t : Nat} {p : Nat × Nat} (hn : n ≤ 5) (hl : c.length = n) (h : Clear n c t) (hp : (pairs n)[t]? = some p) : Clear n (tie c p) (t + 1) := by
  intro s q hs hq
  have m1 := mem_pairs.mp (List.mem_of_getElem? hp)
  have m2 := mem_pairs.mp (List.mem_of_getElem? hq)
  have hne : q ≠ p := by
    rintro rfl
    have := (List.getElem?_inj (List.getElem?_eq_some_iff.mp hp).1 (pairs_nd hn)).mp (hp.trans hq.symm)
    omega
  rw [tie_bit (by omega) (by omega) (by omega)]
  rw [h s q (by omega) hq, Bool.false_or, decide_eq_false]
  rintro (⟨h1, h2⟩ | ⟨h1, h2⟩)
  · exact hne (Prod.ext h1 h2)
  · omega
section
variable {P : Program} {w : World} {K : PySem.W.Frag} {mg : Str → Option Value} {base : Heap} {CN CR : Addr}
def sp_law_masks (K : PySem.W.Frag) : Sp := fun vs H Q _ => ∃ (p : Addr) (row : List Nat) (n : Nat), vs = [.ref p, nV n] ∧ H p = some (.lst (row.map nV)) ∧ row.length = 21 ∧ g row 0 < 12 ∧ n ≤ 5 ∧ Res H Q fun v H' => ∃ c, IL H' v c ∧ Good n c
def LV : List Int := [2, 1, 2, 1, 3, 2, 1, 2, 3, 2, 4, 0]
theorem c_law_masks (B : Bi mg) (c_law_pairs : C8.Cal P w K mg base 1 "_law_pairs" (sp_law_pairs K) []) (D : DB K mg "_law_masks" s_law_masks ["_law_row", "_law_many"]) : C8.Cal P w K mg base 2 "_law_masks" (sp_law_masks K) [] := by
  obtain ⟨f, fd, F, b⟩ := D.ex
  have nd := sc_law_masks.nd
  refine C8.cal0 F b .nil sc_law_masks (fun vs H Q E h => by obtain ⟨p, row, n, rfl, _⟩ := h; rfl) fun cdv A outer s H vs Q E hr h => ?_
  obtain ⟨p, row, n, rfl, hp, hrow, hr0, hn, k⟩ := h
  have hpf := pairs_len n hn
  refine ⟨(tSeq (tAsg (tLc (iRng1 (tCons (tVar 1) tNil)) (gName 6) tYes (tC (.int 0)) [6]) (gName 2))
      (tSeq (tAsg (tC (.int 1)) (gName 3))
      (tSeq (tAsg (tOp (rIxL K) (tLst (tCons (tC (.int 2)) (tCons (tC (.int 1)) (tCons (tC (.int 2)) (tCons (tC (.int 1)) (tCons (tC (.int 3)) (tCons (tC (.int 2)) (tCons (tC (.int 1)) (tCons (tC (.int 2)) (tCons (tC (.int 3)) (tCons (tC (.int 2)) (tCons (tC (.int 4)) (tCons (tC (.int 0)) tNil))))))))))))) (tCB rInt1 (tCons (tOp (rIxL K) (tVar 0) (tC (.int 0))) tNil))) (gName 4))
      (tSeq (tFor (iList K (tCall (sp_law_pairs K) [] C8.E0 (tCons (tVar 1) tNil))) (gName 5) (tSeq (tIfS (tTest (tOp rLtI (tCB rInt1 (tCons (tOp (rIxL K) (tVar 0) (tVar 3)) tNil)) (tVar 4))) (tSeq (tAsg (tOp rAddI (tOp (rIxL K) (tVar 2) (tOp (rIxT K) (tVar 5) (tC (.int 0)))) (tOp rShlT (tC (.int 1)) (tOp (rIxT K) (tVar 5) (tC (.int 1))))) (gSub (tVar 2) (tOp (rIxT K) (tVar 5) (tC (.int 0))) rSetL))
          (tAsg (tOp rAddI (tOp (rIxL K) (tVar 2) (tOp (rIxT K) (tVar 5) (tC (.int 1)))) (tOp rShlT (tC (.int 1)) (tOp (rIxT K) (tVar 5) (tC (.int 0))))) (gSub (tVar 2) (tOp (rIxT K) (tVar 5) (tC (.int 1))) rSetL))) tNext)
        (tAsg (tOp rAddI (tVar 3) (tC (.int 1))) (gName 3))))
      (tSeq (tIfS (tTest (tOp rLtI (tOp (rIxL K) (tVar 0) (tC (.int 0))) (tC (.int 6)))) (tFor (iRng2 (tCons (tC (.int 1)) (tCons (tVar 1) tNil))) (gName 6) (tIfS (tTest (tOp rEq (tOp rAndT (tOp (rIxL K) (tVar 2) (tVar 6)) (tOp rSubI (tOp rShlT (tC (.int 1)) (tVar 6)) (tC (.int 1)))) (tC (.int 0)))) (tSeq (tAsg (tOp rModI (tCB rInt1 (tCons (tOp (rIxL K) (tVar 0) (tOp rAddI (tC (.int 15)) (tVar 6))) tNil)) (tVar 6)) (gName 7))
            (tSeq (tAsg (tOp rAddI (tOp (rIxL K) (tVar 2) (tVar 6)) (tOp rShlT (tC (.int 1)) (tVar 7))) (gSub (tVar 2) (tVar 6) rSetL))
            (tAsg (tOp rAddI (tOp (rIxL K) (tVar 2) (tVar 7)) (tOp rShlT (tC (.int 1)) (tVar 6))) (gSub (tVar 2) (tVar 7) rSetL)))) tNext)) tNext)
      (tRet (tVar 2))))))),
      (pss_cons (ps_setLc (i := 2) (own := [("_law_k", 6)]) (g := (gName 6)) (tt := tYes) (te := (tC (.int 0))) rfl nd rfl rfl (sw_true rfl rfl rfl (by decide +kernel)) (pi_range1 (by rfl) B.range (pa_cons (pv 1) pa_nil)) (blkOk_by (N := ["_law_row", "_law_many", "_law_masks_here", "_law_at", "_law_level", "_law_pair", "_law_k", "_law_near"]) (sc := C8.fnScope s_law_masks) (own := [("_law_k", 6)]) (by decide +kernel)) (fun _ _ _ _ _ => (pg_name (i := 6) nd rfl (by first | exact Or.inl rfl | exact Or.inr rfl))) (fun _ _ _ _ _ => pts_nil) (fun _ _ _ _ _ => pe_int))
      (pss_cons (ps_set (i := 3) nd rfl (by first | exact Or.inl rfl | exact Or.inr rfl) pe_int)
      (pss_cons (ps_set (i := 4) nd rfl (by first | exact Or.inl rfl | exact Or.inr rfl) (pe_ix ix_list (pe_lst (pa_cons pe_int (pa_cons pe_int (pa_cons pe_int (pa_cons pe_int (pa_cons pe_int (pa_cons pe_int (pa_cons pe_int (pa_cons pe_int (pa_cons pe_int (pa_cons pe_int (pa_cons pe_int (pa_cons pe_int pa_nil))))))))))))) (pe_callTy call_int1 (by rfl) B.int (by decide +kernel) (pa_cons (pe_ix ix_list (pv 0) pe_int (fun _ _ => rfl)) pa_nil)) (fun _ _ => rfl)))
      (pss_cons (ps_for PassesOwn.never rfl (pi_list (C8.pe_c c_law_pairs hr (by decide) rfl (pa_cons (pv 1) pa_nil))) (pg_name (i := 5) nd rfl (by first | exact Or.inl rfl | exact Or.inr rfl)) (pss_cons (ps_if (pt_cmpR op_lt (pe_callTy call_int1 (by rfl) B.int (by decide +kernel) (pa_cons (pe_ix ix_list (pv 0) (pv 3) (fun _ _ => rfl)) pa_nil)) (pv 4) (nomark _)) (pss_cons (ps_asg (pe_op op_add (pe_ix ix_list (pv 2) (pe_ix ix_tup (pv 5) pe_int (fun _ _ => rfl)) (fun _ _ => rfl)) (pe_op op_shlT pe_int (pe_ix ix_tup (pv 5) pe_int (fun _ _ => rfl)))) (pg_sub (pv 2) (pe_ix ix_tup (pv 5) pe_int (fun _ _ => rfl)) set_list))
          (pss_one (ps_asg (pe_op op_add (pe_ix ix_list (pv 2) (pe_ix ix_tup (pv 5) pe_int (fun _ _ => rfl)) (fun _ _ => rfl)) (pe_op op_shlT pe_int (pe_ix ix_tup (pv 5) pe_int (fun _ _ => rfl)))) (pg_sub (pv 2) (pe_ix ix_tup (pv 5) pe_int (fun _ _ => rfl)) set_list)))) pss_nil)
        (pss_one (ps_set (i := 3) nd rfl (by first | exact Or.inl rfl | exact Or.inr rfl) (pe_op op_add (pv 3) pe_int)))))
      (pss_cons (ps_if (pt_cmpR op_lt (pe_ix ix_list (pv 0) pe_int (fun _ _ => rfl)) pe_int (nomark _)) (pss_one (ps_for PassesOwn.never rfl (pi_range2 (by rfl) B.range (pa_cons pe_int (pa_cons (pv 1) pa_nil))) (pg_name (i := 6) nd rfl (by first | exact Or.inl rfl | exact Or.inr rfl)) (pss_one (ps_if (pt_cmpR op_eq (pe_op op_andT (pe_ix ix_list (pv 2) (pv 6) (fun _ _ => rfl)) (pe_op op_sub (pe_op op_shlT pe_int (pv 6)) pe_int)) pe_int (nomark _)) (pss_cons (ps_set (i := 7) nd rfl (by first | exact Or.inl rfl | exact Or.inr rfl) (pe_op op_mod (pe_callTy call_int1 (by rfl) B.int (by decide +kernel) (pa_cons (pe_ix ix_list (pv 0) (pe_op op_add pe_int (pv 6)) (fun _ _ => rfl)) pa_nil)) (pv 6)))
            (pss_cons (ps_asg (pe_op op_add (pe_ix ix_list (pv 2) (pv 6) (fun _ _ => rfl)) (pe_op op_shlT pe_int (pv 7))) (pg_sub (pv 2) (pv 6) set_list))
            (pss_one (ps_asg (pe_op op_add (pe_ix ix_list (pv 2) (pv 7) (fun _ _ => rfl)) (pe_op op_shlT pe_int (pv 6))) (pg_sub (pv 2) (pv 7) set_list))))) pss_nil)))) pss_nil)
      (pss_one (ps_ret (pv 2)))))))), ?_⟩
  change tSeq _ _ _ [some (V.ref p), some (nV n), none, none, none, none, none, none] H
  walk_at "go"
  refine c_r1 (fun i acc _ => acc = List.replicate i (nV 0)) (fun _ _ _ _ _ e => e) (by omega) rfl (fun D acc i H' hD hi s e z r => ?_) (fun l H1 acc nl s1 hl _ ea => ?_)
  · refine ⟨rfl, ?_⟩
    walk_at "go"
    refine iteT ?_
    walk_at "go"
    refine lc_yes (fun _ _ _ _ _ e => e) hD s e z (by omega) ?_
    rw [r, List.replicate_succ']
    rfl
  subst ea
  have e0 : List.replicate n (nV 0) = (List.replicate n 0).map nV := by rw [List.map_replicate]
  rw [e0] at hl
  walk_at "go"
  refine ⟨by show 12 ≤ sizeLine; decide, fun lv nlv => ?_⟩
  obtain ⟨s2, elv⟩ := layL nlv (LV.map V.int)
  walk_at "go"
  have s12 := s1.trans s2
  refine r_ixL0 0 rfl (s12 _ _ hp) (ns_at (by omega)) ?_
  walk_at "go"
  obtain ⟨u, hu⟩ : ∃ u : Int, (LV.map V.int)[g row 0]? = some (V.int u) := by
    refine ⟨LV[g row 0]'hr0, ?_⟩
    rw [List.getElem?_map, List.getElem?_eq_getElem (show g row 0 < LV.length from hr0)]
    rfl
  refine r_ixL elv hu ?_
  walk_at "go"
  refine ⟨n, rfl, by omega, fun v H3 s3 hv => ?_⟩
  obtain ⟨pl, xs, rfl, npl, hpl, pxs⟩ := hv
  have hne : pl ≠ l := by rintro rfl; have z := s2 _ _ hl; rw [show upd H1 lv (HO.lst (LV.map V.int)) = _ from rfl] at z; exact absurd (npl.symm.trans z) (by intro e; cases e)
  have hxs := Paired.length pxs
  have s13 := s12.trans s3
  refine w_l (fun t σ' H' => ∃ v5 c, σ' = [some (V.ref p), some (nV n), some (V.ref l), some (nV (t + 1)), some (V.int u), v5, none, none] ∧ SX l H3 H' ∧ Same H H' ∧ H' l = some (.lst (c.map nV)) ∧ Good n c ∧ Clear n c t) hpl ?_ ?_ ?_ ?_
  · refine ⟨_, _, rfl, Same.sx (Same.refl _), s13, s3 _ _ (s2 _ _ hl), good_zero n, fun s q _ _ => ?_⟩
    rw [g_zero, Nat.zero_testBit]
  · rintro i σ' H' _ ⟨_, _, rfl, sx, _⟩
    exact sx _ _ hne hpl
  · rintro t x σ' H4 hx ⟨v5, c, rfl, sx, s4, el, hg, cl⟩
    have ht : t < (pairs n).length := by
      have := (List.getElem?_eq_some_iff.mp hx).1
      omega
    have htq := List.getElem?_eq_getElem ht
    obtain ⟨x', hx', b, rfl, hb0⟩ := K81.Paired.get pxs htq
    rw [hx] at hx'
    cases hx'
    obtain ⟨m1, m2⟩ := mem_pairs.mp (List.getElem_mem ht)
    generalize (pairs n)[t] = q at *
    obtain ⟨i, j⟩ := q
    simp only at m1 m2 hb0
    have hbl : b ≠ l := by
      rintro rfl
      rw [s3 _ _ (s2 _ _ hl)] at hb0
      cases hb0
    have hb := sx _ _ hbl hb0
    have hcl := hg.1
    walk_at "go"
    refine r_ixL (s4 _ _ hp) (ns_at (show t + 1 < _ by omega)) ?_
    walk_at "go"
    refine ite2 (fun _ => ?_) (fun _ => ?_)
    · walk_at "go"
      refine r_ixT0 0 rfl hb rfl ?_
      refine r_ixL el (ns_at (show i < _ by omega)) ?_
      walk_at "go"
      refine r_ixT0 1 rfl hb rfl ?_
      refine r_shl (by omega) ?_
      walk_at "go"
      refine r_ixT0 0 rfl hb rfl ?_
      refine r_setL el (by rw [List.length_map]; omega) ?_
      have el2 : (upd H4 l (.lst ((c.map nV).set i (V.int ((g c i : Int) + ((2 ^ j : Nat) : Int)))))) l = some (.lst ((c.set i (g c i + 2 ^ j)).map nV)) := by
        rw [upd_same, List.map_set]
        rfl
      have sx2 : SX l H3 (upd H4 l (.lst ((c.map nV).set i (V.int ((g c i : Int) + ((2 ^ j : Nat) : Int)))))) := sx.upd
      have s5 : Same H (upd H4 l (.lst ((c.map nV).set i (V.int ((g c i : Int) + ((2 ^ j : Nat) : Int)))))) := s4.chg nl
      generalize upd H4 l (.lst ((c.map nV).set i (V.int ((g c i : Int) + ((2 ^ j : Nat) : Int))))) = H5 at *
      have hb5 := sx2 _ _ hbl hb0
      walk_at "go"
      refine r_ixT0 1 rfl hb5 rfl ?_
      refine r_ixL el2 (ns_at (by rw [List.length_set]; omega)) ?_
      walk_at "go"
      refine r_ixT0 0 rfl hb5 rfl ?_
      refine r_shl (by omega) ?_
      walk_at "go"
      refine r_ixT0 1 rfl hb5 rfl ?_
      refine r_setL el2 (by rw [List.length_map, List.length_set]; omega) ?_
      walk_at "go"
      have hb1 : (g c (i, j).1).testBit (i, j).2 = false := cl t (i, j) (Nat.le_refl _) htq
      have hta := tie_add (c := c) (p := (i, j)) hb1 (by rw [hg.sym]; exact hb1) (show i ≠ j by omega)
      refine ⟨_, tie c (i, j), rfl, sx2.upd, s5.chg nl, ?_, tie_good hg ⟨by show i < n; omega, m2, by show i ≠ j; omega⟩, cl.tie hn hcl htq⟩
      rw [upd_same, ← hta]
      simp only [List.map_set]
      rfl
    · walk_at "go"
      exact ⟨_, c, rfl, sx, s4, el, hg, cl.next⟩
  · rintro σ' H4 ⟨v5, c, rfl, sx, s4, el, hg, cl⟩
    have fin : ∀ H5 c', Same H H5 → H5 l = some (.lst (c'.map nV)) → Good n c' → Q (.ref l) H5 := fun H5 c' s5 e5 g5 => k _ _ s5 ⟨c', ⟨l, rfl, e5⟩, g5⟩
    walk_at "go"
    refine r_ixL0 0 rfl (s4 _ _ hp) (ns_at (by omega)) ?_
    walk_at "go"
    refine ite2 (fun _ => ?_) (fun _ => ?_)
    · walk_at "go"
      refine w_r2 1 n (fun t σ' H' => ∃ v6 v7 c, σ' = [some (V.ref p), some (nV n), some (V.ref l), some (nV (xs.length + 1)), some (V.int u), v5, v6, v7] ∧ Same H H' ∧ H' l = some (.lst (c.map nV)) ∧ Good n c) rfl rfl (by omega) (by omega) ?_ ?_ ?_
      · exact ⟨_, _, c, rfl, s4, el, hg⟩
      · rintro t σ' H5 ht ⟨v6, v7, c, rfl, s5, el, hg⟩
        have hcl := hg.1
        walk_at "go"
        refine r_ixL el (ns_at (show 1 + t < _ by omega)) ?_
        walk_at "go"
        refine r_shl (by omega) ?_
        walk_at "go"
        have e1 : ((2 ^ (1 + t) : Nat) : Int) - 1 = ((2 ^ (1 + t) - 1 : Nat) : Int) := by
          have := Nat.two_pow_pos (1 + t)
          omega
        rw [e1]
        walk_at "go"
        refine ite2 (fun hz => ?_) (fun _ => ?_)
        · have hz2 : g c (1 + t) &&& (2 ^ (1 + t) - 1) = 0 := by
            have := V.int.inj (of_decide_eq_true hz)
            omega
          walk_at "go"
          have e15 : (15 : Int) + ((1 + t : Nat) : Int) = ((15 + (1 + t) : Nat) : Int) := by omega
          rw [e15]
          refine r_ixL (s5 _ _ hp) (ns_at (by omega)) ?_
          walk_at "go"
          refine r_modN (by omega) ?_
          have hm : g row (15 + (1 + t)) % (1 + t) < 1 + t := Nat.mod_lt _ (by omega)
          generalize g row (15 + (1 + t)) % (1 + t) = m at *
          walk_at "go"
          refine r_ixL el (ns_at (show 1 + t < _ by omega)) ?_
          walk_at "go"
          refine r_shl (by omega) ?_
          walk_at "go"
          refine r_setL el (by rw [List.length_map]; omega) ?_
          have el2 : (upd H5 l (.lst ((c.map nV).set (1 + t) (V.int ((g c (1 + t) : Int) + ((2 ^ m : Nat) : Int)))))) l = some (.lst ((c.set (1 + t) (g c (1 + t) + 2 ^ m)).map nV)) := by
            rw [upd_same, List.map_set]
            rfl
          have s6 : Same H (upd H5 l (.lst ((c.map nV).set (1 + t) (V.int ((g c (1 + t) : Int) + ((2 ^ m : Nat) : Int)))))) := s5.chg nl
          generalize upd H5 l (.lst ((c.map nV).set (1 + t) (V.int ((g c (1 + t) : Int) + ((2 ^ m : Nat) : Int))))) = H6 at *
          walk_at "go"
          refine r_ixL el2 (ns_at (by rw [List.length_set]; omega)) ?_
          walk_at "go"
          refine r_shl (by omega) ?_
          walk_at "go"
          refine r_setL el2 (by rw [List.length_map, List.length_set]; omega) ?_
          have hb1 : (g c (1 + t, m).1).testBit (1 + t, m).2 = false := by
            show (g c (1 + t)).testBit m = false
            rw [Nat.and_two_pow_sub_one_eq_mod] at hz2
            have h2 := Nat.testBit_mod_two_pow (g c (1 + t)) (1 + t) m
            rw [hz2, Nat.zero_testBit, decide_eq_true hm, Bool.true_and] at h2
            exact h2.symm
          have hta := tie_add (c := c) (p := (1 + t, m)) hb1 (by rw [hg.sym]; exact hb1) (show 1 + t ≠ m by omega)
          refine ⟨_, _, tie c (1 + t, m), rfl, s6.chg nl, ?_, tie_good hg ⟨by show 1 + t < n; omega, by show m < n; omega, by show 1 + t ≠ m; omega⟩⟩
          rw [upd_same, ← hta]
          simp only [List.map_set]
          rfl
        · walk_at "go"
          exact ⟨_, _, c, rfl, s5, el, hg⟩
      · rintro σ' H5 ⟨v6, v7, c, rfl, s5, el, hg⟩
        walk_at "go"
        exact fin _ c s5 el hg
    · walk_at "go"
      exact fin _ c s4 el hg
end
end K81
end

section
open PySem PySem.Spec PyProof.Rows L2

namespace K81
local macro_rules | `(tactic| walk_at "s1") => `(tactic| first
  | with_reducible refine r_seq ?_
  | with_reducible refine r_asg ?_
  | with_reducible refine r_ret ?_
  | with_reducible refine r_if ?_
  | with_reducible refine r_app ?_
  | with_reducible refine r_drop ?_
  | with_reducible refine r_asgS ?_
  | with_reducible refine r_op ?_
  | with_reducible refine r_c ?_
  | ((with_reducible refine' r_var ?hv ?_); (case hv => exact rfl))
  | with_reducible refine r_cb ?_
  | with_reducible refine r_cons ?_
  | with_reducible refine r_nil ?_
  | with_reducible refine r_test ?_
  | with_reducible refine r_tB ?_
  | with_reducible refine r_not ?_
  | with_reducible refine r_and ?_
  | with_reducible refine r_or ?_
  | with_reducible refine r_call ?_
  | with_reducible refine r_tup ?_
  | with_reducible refine r_for1 ?_
  | with_reducible refine r_for2 ?_
  | with_reducible refine r_forT ?_
  | with_reducible refine r_forL ?_
  | with_reducible refine r_lc1 ?_
  | with_reducible refine r_lcT ?_
  | with_reducible refine r_lcL ?_
  | with_reducible refine r_lcE ?_
  | with_reducible refine r_lst ?_
  | with_reducible refine r_yes ?_
  | with_reducible refine r_next ?_
  | with_reducible refine r_nat ?_
  | with_reducible refine r_nat1 ?_
  | with_reducible refine r_i0 ?_
  | with_reducible refine r_int1 ?_
  | ((with_reducible refine' r_eq ?hs ?_); (case hs => exact rfl))
  | ((with_reducible refine' r_ne ?hs ?_); (case hs => exact rfl))
  | with_reducible refine r_bitT ?_
  | with_reducible refine r_tfld ?_
  | with_reducible refine r_tsfld ?_
  | with_reducible refine r_make ?_
  | with_reducible refine r_sl ?_
  | with_reducible refine r_part ?_
  | with_reducible refine r_nopart ?_
  | with_reducible refine r_callK ?_
  | with_reducible refine r_gN ?_
  | with_reducible refine r_din ?_
  | with_reducible refine r_dnin ?_
  | with_reducible refine r_dget ?_
  | with_reducible refine r_dput ?_
  | ((with_reducible refine' r_aug ?hv ?_); (case hv => exact rfl))
  | with_reducible refine r_bl ?_)
local macro_rules | `(tactic| walk_at "go") => `(tactic| repeat walk_at "s1")

section
variable {P : Program} {w : World} {K : PySem.W.Frag} {mg : Str → Option Value} {base : Heap} {CN CR : Addr}
theorem orders_len_pos {n : Nat} (h : n ≤ 5) : 0 < (orders n).length := by
  obtain ⟨r, e⟩ := orders_pos h
  rw [e]
  exact Nat.succ_pos _
theorem pairs_pos {n : Nat} (h : 1 < n) : 0 < (pairs n).length := by
  have : (0, 1) ∈ pairs n := mem_pairs.mpr ⟨by decide, h⟩
  exact List.length_pos_of_mem this
def sp_law_second (K : PySem.W.Frag) : Sp := fun vs H Q _ => ∃ (p q r : Addr) (c d : Core) (row : List Nat) (n : Nat), vs = [.ref p, .ref q, .ref r] ∧ H p = some (.lst (c.map nV)) ∧ H q = some (.lst (row.map nV)) ∧ H r = some (.lst (d.map nV)) ∧ Good n c ∧ Good n d ∧ n ≤ 5 ∧ row.length = 10 ∧ Res H Q fun v H' => ∃ e, IL H' v e ∧ Good n e
theorem c_law_second (B : Bi mg) (c_law_press : C8.Cal P w K mg base 2 "_law_press" (sp_law_press K) []) (c_law_pairs : C8.Cal P w K mg base 1 "_law_pairs" (sp_law_pairs K) []) (c_law_orders : C8.Cal P w K mg base 1 "_law_orders" (sp_law_orders K) []) (c_law_moved : C8.Cal P w K mg base 2 "_law_moved" (sp_law_moved K) [])
    (D : DB K mg "_law_second" s_law_second ["_law_masks_here", "_law_row", "_law_drawn"]) : C8.Cal P w K mg base 3 "_law_second" (sp_law_second K) [] := by
  obtain ⟨f, fd, F, b⟩ := D.ex
  have nd := sc_law_second.nd
  refine C8.cal0 F b .nil sc_law_second (fun vs H Q E h => by obtain ⟨p, q, r, c, d, row, n, rfl, _⟩ := h; rfl) fun cdv A outer s H vs Q E hr h => ?_
  obtain ⟨p, q, r, c, d, row, n, rfl, hp, hq, hrr, hg, hgd, hn, hrow, k⟩ := h
  refine ⟨(tSeq (tAsg (tCB (rLenS K) (tCons (tVar 0) tNil)) (gName 3))
      (tSeq (tIfS (tOr (tTest (tOp rEq (tVar 3) (tC (.int 0)))) (tTest (tOp (rIn K false) (tOp (rIxL K) (tVar 1) (tC (.int 0))) (tLst (tCons (tC (.int 5)) (tCons (tC (.int 6)) tNil)))))) (tRet (tVar 2)) tNext)
      (tSeq (tAsg (tVar 0) (gName 4))
      (tSeq (tFor (iList K (tSl (rSlL K) (tVar 1) (tPart (tC (.int 3))) (tPart (tOp rAddI (tC (.int 3)) (tOp rModI (tCB rInt1 (tCons (tOp (rIxL K) (tVar 1) (tC (.int 1))) tNil)) (tC (.int 6))))))) (gName 5) (tAsg (tCall (sp_law_press K) [] C8.E0 (tCons (tVar 4) (tCons (tOp rModI (tCB rInt1 (tCons (tVar 5) tNil)) (tVar 3)) tNil))) (gName 4)))
      (tSeq (tIfS (tAnd (tTest (tOp rEq (tOp (rIxL K) (tVar 1) (tC (.int 0))) (tC (.int 4)))) (tTest (tOp rGtI (tVar 3) (tC (.int 1))))) (tSeq (tAsg (tCall (sp_law_pairs K) [] C8.E0 (tCons (tVar 3) tNil)) (gName 6))
        (tSeq (tAsg (tOp (rIxL K) (tVar 6) (tOp rModI (tCB rInt1 (tCons (tOp (rIxL K) (tVar 1) (tC (.int 2))) tNil)) (tCB (rLenS K) (tCons (tVar 6) tNil)))) (gName 7))
        (tSeq (tAsg (tCB (rListOf K) (tCons (tVar 4) tNil)) (gName 4))
        (tSeq (tAsg (tOp rXorT (tOp (rIxL K) (tVar 4) (tOp (rIxT K) (tVar 7) (tC (.int 0)))) (tOp rShlT (tC (.int 1)) (tOp (rIxT K) (tVar 7) (tC (.int 1))))) (gSub (tVar 4) (tOp (rIxT K) (tVar 7) (tC (.int 0))) rSetL))
        (tAsg (tOp rXorT (tOp (rIxL K) (tVar 4) (tOp (rIxT K) (tVar 7) (tC (.int 1)))) (tOp rShlT (tC (.int 1)) (tOp (rIxT K) (tVar 7) (tC (.int 0))))) (gSub (tVar 4) (tOp (rIxT K) (tVar 7) (tC (.int 1))) rSetL)))))) tNext)
      (tSeq (tAsg (tCall (sp_law_orders K) [] C8.E0 (tCons (tVar 3) tNil)) (gName 8))
      (tRet (tCall (sp_law_moved K) [] C8.E0 (tCons (tVar 4) (tCons (tOp (rIxL K) (tVar 8) (tOp rModI (tCB rInt1 (tCons (tOp (rIxL K) (tVar 1) (tC (.int 8))) tNil)) (tCB (rLenS K) (tCons (tVar 8) tNil)))) tNil)))))))))),
      (pss_cons (ps_set (i := 3) nd rfl (by first | exact Or.inl rfl | exact Or.inr rfl) (pe_callB call_len_seq (by rfl) B.len PySem.boot_len (pa_cons (pv 0) pa_nil)))
      (pss_cons (ps_if (PW.pt (pw_or (pt_cmpR op_eq (pv 3) pe_int (nomark _)) (pw_or1 (pt_cmpR op_in_seq (pe_ix ix_list (pv 1) pe_int (fun _ _ => rfl)) (pe_lst (pa_cons pe_int (pa_cons pe_int pa_nil))) rfl)))) (pss_one (ps_ret (pv 2))) pss_nil)
      (pss_cons (ps_set (i := 4) nd rfl (by first | exact Or.inl rfl | exact Or.inr rfl) (pv 0))
      (pss_cons (ps_for PassesOwn.never rfl (pi_list (pe_slice sl_list (pv 1) (po_some pe_int) (po_some (pe_op op_add pe_int (pe_op op_mod (pe_callTy call_int1 (by rfl) B.int (by decide +kernel) (pa_cons (pe_ix ix_list (pv 1) pe_int (fun _ _ => rfl)) pa_nil)) pe_int))))) (pg_name (i := 5) nd rfl (by first | exact Or.inl rfl | exact Or.inr rfl)) (pss_one (ps_set (i := 4) nd rfl (by first | exact Or.inl rfl | exact Or.inr rfl) (C8.pe_c c_law_press hr (by decide) rfl (pa_cons (pv 4) (pa_cons (pe_op op_mod (pe_callTy call_int1 (by rfl) B.int (by decide +kernel) (pa_cons (pv 5) pa_nil)) (pv 3)) pa_nil))))))
      (pss_cons (ps_if (PW.pt (pw_and (pt_cmpR op_eq (pe_ix ix_list (pv 1) pe_int (fun _ _ => rfl)) pe_int (nomark _)) (pw_and1 (pt_cmpR op_gt (pv 3) pe_int (nomark _))))) (pss_cons (ps_set (i := 6) nd rfl (by first | exact Or.inl rfl | exact Or.inr rfl) (C8.pe_c c_law_pairs hr (by decide) rfl (pa_cons (pv 3) pa_nil)))
        (pss_cons (ps_set (i := 7) nd rfl (by first | exact Or.inl rfl | exact Or.inr rfl) (pe_ix ix_list (pv 6) (pe_op op_mod (pe_callTy call_int1 (by rfl) B.int (by decide +kernel) (pa_cons (pe_ix ix_list (pv 1) pe_int (fun _ _ => rfl)) pa_nil)) (pe_callB call_len_seq (by rfl) B.len PySem.boot_len (pa_cons (pv 6) pa_nil))) (fun _ _ => rfl)))
        (pss_cons (ps_set (i := 4) nd rfl (by first | exact Or.inl rfl | exact Or.inr rfl) (pe_callTy call_list_of (by rfl) B.list (by decide +kernel) (pa_cons (pv 4) pa_nil)))
        (pss_cons (ps_asg (pe_op op_xorT (pe_ix ix_list (pv 4) (pe_ix ix_tup (pv 7) pe_int (fun _ _ => rfl)) (fun _ _ => rfl)) (pe_op op_shlT pe_int (pe_ix ix_tup (pv 7) pe_int (fun _ _ => rfl)))) (pg_sub (pv 4) (pe_ix ix_tup (pv 7) pe_int (fun _ _ => rfl)) set_list))
        (pss_one (ps_asg (pe_op op_xorT (pe_ix ix_list (pv 4) (pe_ix ix_tup (pv 7) pe_int (fun _ _ => rfl)) (fun _ _ => rfl)) (pe_op op_shlT pe_int (pe_ix ix_tup (pv 7) pe_int (fun _ _ => rfl)))) (pg_sub (pv 4) (pe_ix ix_tup (pv 7) pe_int (fun _ _ => rfl)) set_list))))))) pss_nil)
      (pss_cons (ps_set (i := 8) nd rfl (by first | exact Or.inl rfl | exact Or.inr rfl) (C8.pe_c c_law_orders hr (by decide) rfl (pa_cons (pv 3) pa_nil)))
      (pss_one (ps_ret (C8.pe_c c_law_moved hr (by decide) rfl (pa_cons (pv 4) (pa_cons (pe_ix ix_list (pv 8) (pe_op op_mod (pe_callTy call_int1 (by rfl) B.int (by decide +kernel) (pa_cons (pe_ix ix_list (pv 1) pe_int (fun _ _ => rfl)) pa_nil)) (pe_callB call_len_seq (by rfl) B.len PySem.boot_len (pa_cons (pv 8) pa_nil))) (fun _ _ => rfl)) pa_nil))))))))))), ?_⟩
  change tSeq _ _ _ [some (V.ref p), some (V.ref q), some (V.ref r), none, none, none, none, none, none] H
  walk_at "go"
  refine r_lenL hp ?_
  rw [List.length_map, hg.1]
  walk_at "go"
  have drawn : Q (.ref r) H := k _ _ (Same.refl _) ⟨d, ⟨r, rfl, hrr⟩, hgd⟩
  refine ite2 (fun hb => ?_) (fun hb => ?_)
  · refine iteT ?_
    walk_at "go"
    exact drawn
  have hn0 : 0 < n := by
    have h1 := of_decide_eq_false (Bool.eq_false_iff.mpr hb)
    by_cases e : n = 0
    · exact absurd (by rw [e]; rfl) h1
    · omega
  walk_at "go"
  refine r_ixL0 0 rfl hq (ns_at (by omega)) ?_
  walk_at "go"
  refine ⟨by show 2 ≤ sizeLine; decide, fun l0 nl0 => ?_⟩
  obtain ⟨s0, el0⟩ := layL nl0 [V.int 5, V.int 6]
  refine r_inL (o := [5, 6]) (g row 0) rfl el0 ?_
  walk_at "go"
  refine ite2 (fun _ => ?_) (fun _ => ?_)
  · walk_at "go"
    exact k _ _ s0 ⟨d, ⟨r, rfl, s0 _ _ hrr⟩, hgd⟩
  walk_at "go"
  refine ⟨_, rfl, ?_⟩
  walk_at "go"
  refine r_ixL0 1 rfl (s0 _ _ hq) (ns_at (by omega)) ?_
  walk_at "go"
  refine r_mod (by decide) ?_
  walk_at "go"
  refine ⟨_, rfl, ?_⟩
  refine sl_L (s0 _ _ hq) fun sl nsl => ?_
  obtain ⟨ys, hys⟩ : ∃ ys : List Nat, cutV (row.map nV) (some 3) (some (3 + ((g row 1 : Nat) : Int) % 6)) = ys.map nV := by
    unfold cutV
    rw [← List.map_drop, ← List.map_take]
    exact ⟨_, rfl⟩
  obtain ⟨s1, esl⟩ := layL nsl (cutV (row.map nV) (some 3) (some (3 + ((g row 1 : Nat) : Int) % 6)))
  have esl := esl.trans (by rw [hys])
  have s01 := s0.trans s1
  refine w_l (fun t σ' H' => ∃ a v5 e, σ' = [some (V.ref p), some (V.ref q), some (V.ref r), some (nV n), some (V.ref a), v5, none, none, none] ∧ Same (upd (upd H l0 (.lst [V.int 5, V.int 6])) sl (.lst (cutV (row.map nV) (some 3) (some (3 + ((g row 1 : Nat) : Int) % 6))))) H' ∧ H' a = some (.lst (e.map nV)) ∧ Good n e) esl ?_ ?_ ?_ ?_
  · exact ⟨p, _, c, rfl, Same.refl _, s01 _ _ hp, hg⟩
  · rintro i σ' H' _ ⟨_, _, _, rfl, s2, _⟩
    exact s2 _ _ esl
  · rintro i x σ' H' hx ⟨a, v5, e, rfl, s2, ea, hge⟩
    obtain ⟨y, rfl⟩ : ∃ y : Nat, x = nV y := by
      rw [List.getElem?_map] at hx
      cases hz : ys[i]? with
      | none => rw [hz] at hx; cases hx
      | some z => rw [hz] at hx; cases hx; exact ⟨z, rfl⟩
    walk_at "go"
    refine r_modN hn0 ?_
    walk_at "go"
    refine ⟨a, e, y % n, n, rfl, .inl ea, hge, Nat.mod_lt _ hn0, by omega, fun v H3 s3 hv => ?_⟩
    obtain ⟨a2, rfl, ea2⟩ := hv
    exact ⟨a2, _, _, rfl, s2.trans s3, ea2, press_good hge (Nat.mod_lt _ hn0)⟩
  · rintro σ' H2 ⟨a, v5, e, rfl, s2, ea, hge⟩
    have s02 := s01.trans s2
    have tail : ∀ (H3 : Hp) (a : Addr) (e : Core) (v5 v6 v7 : Option V) (D : Ends), Same H H3 → H3 a = some (.lst (e.map nV)) → Good n e → (∀ H4 v, Same H H4 → (∃ e, IL H4 v e ∧ Good n e) → D.rt v H4) →
        tSeq (tAsg (tCall (sp_law_orders K) [] C8.E0 (tCons (tVar 3) tNil)) (gName 8)) (tRet (tCall (sp_law_moved K) [] C8.E0 (tCons (tVar 4) (tCons (tOp (rIxL K) (tVar 8) (tOp rModI (tCB rInt1 (tCons (tOp (rIxL K) (tVar 1) (tC (.int 8))) tNil)) (tCB (rLenS K) (tCons (tVar 8) tNil)))) tNil)))) D
          [some (V.ref p), some (V.ref q), some (V.ref r), some (nV n), some (V.ref a), v5, v6, v7, none] H3 := by
      intro H3 a e v5 v6 v7 D s3 ea hge fin
      walk_at "go"
      refine ⟨n, rfl, hn, fun v H4 s4 hv => ?_⟩
      obtain ⟨ol, os, rfl, hol, po⟩ := hv
      have hlen := Paired.length po
      have hpos := orders_len_pos hn
      have s34 := s3.trans s4
      walk_at "go"
      refine r_ixL0 8 rfl (s34 _ _ hq) (ns_at (by omega)) ?_
      walk_at "go"
      refine r_lenL hol ?_
      rw [hlen]
      refine r_modN hpos ?_
      have hm := Nat.mod_lt (g row 8) hpos
      generalize g row 8 % (orders n).length = m at *
      obtain ⟨x, hx, oa, rfl, hoa⟩ := K81.Paired.get po (List.getElem?_eq_getElem hm)
      have hord := orders_ok (List.getElem_mem hm)
      refine r_ixL hol hx ?_
      walk_at "go"
      refine ⟨a, oa, e, _, n, rfl, s4 _ _ ea, hoa, hge, hord, by omega, fun v H5 s5 hv => ?_⟩
      exact fin _ _ (s34.trans s5) ⟨_, hv, moved_good hord hge⟩
    walk_at "go"
    refine r_ixL0 0 rfl (s02 _ _ hq) (ns_at (by omega)) ?_
    walk_at "go"
    have stay : (tSeq (tAsg (tCall (sp_law_orders K) [] C8.E0 (tCons (tVar 3) tNil)) (gName 8)) (tRet (tCall (sp_law_moved K) [] C8.E0 (tCons (tVar 4) (tCons (tOp (rIxL K) (tVar 8) (tOp rModI (tCB rInt1 (tCons (tOp (rIxL K) (tVar 1) (tC (.int 8))) tNil)) (tCB (rLenS K) (tCons (tVar 8) tNil)))) tNil))))) { nx := fun _ H' => Q .non H', rt := Q }
        [some (V.ref p), some (V.ref q), some (V.ref r), some (nV n), some (V.ref a), v5, none, none, none] H2 := tail H2 a e v5 none none _ s02 ea hge fun H4 v s h => k _ _ s h
    refine ite2 (fun _ => ?_) (fun _ => ?_)
    · walk_at "go"
      refine ite2 (fun h1 => ?_) (fun _ => ?_)
      · have hn1 : 1 < n := by
          have := of_decide_eq_true h1
          omega
        walk_at "go"
        refine ⟨n, rfl, by omega, fun v H3 s3 hv => ?_⟩
        obtain ⟨pl, xs, rfl, npl, hpl, pxs⟩ := hv
        have hxs := Paired.length pxs
        have hpp := pairs_pos hn1
        have s03 := s02.trans s3
        walk_at "go"
        refine r_ixL0 2 rfl (s03 _ _ hq) (ns_at (by omega)) ?_
        walk_at "go"
        refine r_lenL hpl ?_
        rw [hxs]
        refine r_modN hpp ?_
        have hm := Nat.mod_lt (g row 2) hpp
        generalize g row 2 % (pairs n).length = m at *
        obtain ⟨x, hx, b, rfl, hb⟩ := K81.Paired.get pxs (List.getElem?_eq_getElem hm)
        obtain ⟨m1, m2⟩ := mem_pairs.mp (List.getElem_mem hm)
        generalize (pairs n)[m] = pq at *
        obtain ⟨i, j⟩ := pq
        simp only at m1 m2 hb
        have hcl := hge.1
        refine r_ixL hpl hx ?_
        walk_at "go"
        refine r_listOf (s3 _ _ ea) fun l nl => ?_
        obtain ⟨s4, el⟩ := layL nl (e.map nV)
        have s04 := s03.trans s4
        have nlH : H l = none := by
          cases hh : H l with
          | none => rfl
          | some o => rw [s03 _ _ hh] at nl; cases nl
        have hb4 := s4 _ _ hb
        have hbl : b ≠ l := by rintro rfl; rw [hb] at nl; cases nl
        generalize upd H3 l (.lst (e.map nV)) = H4 at *
        walk_at "go"
        refine r_ixT0 0 rfl hb4 rfl ?_
        refine r_ixL el (ns_at (show i < _ by omega)) ?_
        walk_at "go"
        refine r_ixT0 1 rfl hb4 rfl ?_
        refine r_shl (by omega) ?_
        walk_at "go"
        refine r_ixT0 0 rfl hb4 rfl ?_
        refine r_setL el (by rw [List.length_map]; omega) ?_
        have el2 : (upd H4 l (.lst ((e.map nV).set i (nV (g e i ^^^ 2 ^ j))))) l = some (.lst ((e.set i (g e i ^^^ 2 ^ j)).map nV)) := by
          rw [upd_same, List.map_set]
        have s05 : Same H (upd H4 l (.lst ((e.map nV).set i (nV (g e i ^^^ 2 ^ j))))) := s04.chg nlH
        have hb5 := (upd_ne (H := H4) (o := .lst ((e.map nV).set i (nV (g e i ^^^ 2 ^ j)))) hbl).trans hb4
        generalize upd H4 l (.lst ((e.map nV).set i (nV (g e i ^^^ 2 ^ j)))) = H5 at *
        walk_at "go"
        refine r_ixT0 1 rfl hb5 rfl ?_
        refine r_ixL el2 (ns_at (by rw [List.length_set]; omega)) ?_
        walk_at "go"
        refine r_ixT0 0 rfl hb5 rfl ?_
        refine r_shl (by omega) ?_
        walk_at "go"
        refine r_ixT0 1 rfl hb5 rfl ?_
        refine r_setL el2 (by rw [List.length_map, List.length_set]; omega) ?_
        refine tail _ l (turn e (i, j)) v5 _ _ _ (s05.chg nlH) ?_ (turn_good hge ⟨by show i < n; omega, m2, by show i ≠ j; omega⟩) fun H6 v s h => k _ _ s h
        rw [upd_same, turn]
        simp only [List.map_set]
      · exact stay
    · refine iteF ?_
      exact stay
end
end K81
end

section
open PySem PySem.Spec PyProof.Rows L2

namespace K81
section
variable {H : Hp} {Q : VK} {i j : Int}
theorem r_modC {n : Nat} (m : Nat) (e : j = (m : Int)) (h : 0 < m) (q : Q (nV (n % m)) H) : rModI (nV n) (.int j) H Q := by
  subst e
  exact r_modN h q
theorem r_divC {n : Nat} (m : Nat) (e : j = (m : Int)) (h : 0 < m) (h2 : m < 2 ^ 62) (q : Q (nV (n / m)) H) : rDivI (nV n) (.int j) H Q := by
  subst e
  exact r_divN h h2 q
end
local macro_rules | `(tactic| walk_at "s1") => `(tactic| first
  | with_reducible refine r_seq ?_
  | with_reducible refine r_asg ?_
  | with_reducible refine r_ret ?_
  | with_reducible refine r_if ?_
  | with_reducible refine r_app ?_
  | with_reducible refine r_drop ?_
  | with_reducible refine r_asgS ?_
  | with_reducible refine r_op ?_
  | with_reducible refine r_c ?_
  | ((with_reducible refine' r_var ?hv ?_); (case hv => exact rfl))
  | with_reducible refine r_cb ?_
  | with_reducible refine r_cons ?_
  | with_reducible refine r_nil ?_
  | with_reducible refine r_test ?_
  | with_reducible refine r_tB ?_
  | with_reducible refine r_not ?_
  | with_reducible refine r_and ?_
  | with_reducible refine r_or ?_
  | with_reducible refine r_call ?_
  | with_reducible refine r_tup ?_
  | with_reducible refine r_for1 ?_
  | with_reducible refine r_for2 ?_
  | with_reducible refine r_forT ?_
  | with_reducible refine r_forL ?_
  | with_reducible refine r_lc1 ?_
  | with_reducible refine r_lcT ?_
  | with_reducible refine r_lcL ?_
  | with_reducible refine r_lcE ?_
  | with_reducible refine r_lst ?_
  | with_reducible refine r_yes ?_
  | with_reducible refine r_next ?_
  | with_reducible refine r_nat ?_
  | with_reducible refine r_nat1 ?_
  | with_reducible refine r_i0 ?_
  | with_reducible refine r_int1 ?_
  | ((with_reducible refine' r_eq ?hs ?_); (case hs => exact rfl))
  | ((with_reducible refine' r_ne ?hs ?_); (case hs => exact rfl))
  | with_reducible refine r_bitT ?_
  | with_reducible refine r_tfld ?_
  | with_reducible refine r_tsfld ?_
  | with_reducible refine r_make ?_
  | with_reducible refine r_sl ?_
  | with_reducible refine r_part ?_
  | with_reducible refine r_nopart ?_
  | with_reducible refine r_callK ?_
  | with_reducible refine r_gN ?_
  | with_reducible refine r_din ?_
  | with_reducible refine r_dnin ?_
  | with_reducible refine r_dget ?_
  | with_reducible refine r_dput ?_
  | ((with_reducible refine' r_aug ?hv ?_); (case hv => exact rfl))
  | with_reducible refine r_bl ?_)
local macro_rules | `(tactic| walk_at "go") => `(tactic| repeat walk_at "s1")

abbrev s_law_names : Stmt := topS 38
theorem sc_law_names : FnScope ["_law_row", "_law_many", "_law_menu", "_law_names_here", "_law_k", "_law_rest", "_law_text", "_law_tail", "_law_turn", "_law_name"] ["_law_row", "_law_many"] (C8.fnScope s_law_names) := C8.fnScope_by (by decide +kernel)

/-! ### the names drawn -/
def M1 : List Str := ["a", "b", "c", "d", "ab", "a1", "x", "xy", "z", "m0", "q7", "a1b", "b2c", "zz9", "k", "longname", "longnamd"]
def M2 : List Str := ["a1b0", "lo", "and", "or", "not", "joins", "degree", "size", "joint", "even", "press", "swap", "leave"]
def M3 : List Str := ["point", "turn", "undo", "see", "trial", "narrow", "enter"]
def MM : List Str := M1 ++ M2 ++ M3
def T10 : List Str := ["1", "2", "3", "9", "10", "11", "12", "20", "100", "101"]
def sALN : Str := "abcdefghijklmnopqrstuvwxyz0123456789"
def sAB : Str := "ab"
def validB (s : Str) : Bool := decide (s.cps.toList.length ≤ 8) && (match s.cps.toList with | [] => false | c :: _ => LET.contains c) && s.cps.toList.all fun c => LET.contains c || DIG.contains c
theorem valid_of {s : Str} (h : validB s = true) : Valid s := by
  simp only [validB, Bool.and_eq_true, decide_eq_true_eq, List.all_eq_true, Bool.or_eq_true] at h
  obtain ⟨⟨h1, h2⟩, h3⟩ := h
  refine ⟨h1, ?_, fun c hc => (h3 c hc).imp (fun z => List.contains_iff_mem.mp z) (fun z => List.contains_iff_mem.mp z)⟩
  cases e : s.cps.toList with
  | nil => rw [e] at h2; cases h2
  | cons c r =>
    rw [e] at h2
    exact ⟨c, r, rfl, List.contains_iff_mem.mp h2⟩
theorem MM_valid : ∀ s ∈ MM, Valid s := fun s hs => valid_of (List.all_eq_true.mp (show MM.all validB = true by decide +kernel) s hs)
theorem MM_nd : MM.Nodup := by decide +kernel
theorem MM_len : MM.length = 37 := rfl
theorem T10_valid : ∀ c ∈ [97, 98], ∀ t ∈ T10, Valid ((⟨#[c]⟩ : Str) ++ t) := fun c hc t ht =>
  valid_of (List.all_eq_true.mp (List.all_eq_true.mp (show ([97, 98].all fun c => T10.all fun t => validB ((⟨#[c]⟩ : Str) ++ t)) = true by decide +kernel) c hc) t ht)
theorem T10_small : ∀ t ∈ T10, t.length ≤ 3 := by decide +kernel
theorem aln_mem : ∀ c ∈ sALN.cps.toList, c ∈ LET ∨ c ∈ DIG := by
  intro c hc
  have h := List.all_eq_true.mp (show (sALN.cps.toList.all fun c => LET.contains c || DIG.contains c) = true by decide +kernel) c hc
  simp only [Bool.or_eq_true] at h
  exact h.imp (fun z => List.contains_iff_mem.mp z) (fun z => List.contains_iff_mem.mp z)
theorem one_valid {c : Nat} (h : c ∈ LET) : Valid ⟨#[c]⟩ := ⟨by show 1 ≤ 8; decide, ⟨c, [], rfl, h⟩, fun d hd => by
  have : d = c := by simpa using hd
  rw [this]
  exact .inl h⟩
theorem app_cps (s t : Str) : (s ++ t).cps.toList = s.cps.toList ++ t.cps.toList := by
  show (s.cps ++ t.cps).toList = _
  simp
theorem app_valid {s : Str} {c : Nat} (h : Valid s) (hl : s.cps.toList.length ≤ 7) (hc : c ∈ LET ∨ c ∈ DIG) : Valid (s ++ ⟨#[c]⟩) := by
  have e := app_cps s ⟨#[c]⟩
  obtain ⟨d, r, h1, h2⟩ := h.head
  refine ⟨by rw [e]; simp; simpa using hl, ⟨d, r ++ [c], by rw [e, h1]; rfl, h2⟩, fun x hx => ?_⟩
  rw [e] at hx
  rcases List.mem_append.mp hx with hx | hx
  · exact h.all x hx
  · have : x = c := by simpa using hx
    rw [this]
    exact hc
theorem not_all {ss : List Str} {t : Str} (h : ss.length < 37) : ((t :: MM).filter fun s => !decide (s ∈ ss)) ≠ [] := by
  intro e
  have h1 : MM ⊆ ss := by
    intro s hs
    have h2 := List.filter_eq_nil_iff.mp e s (List.mem_cons_of_mem _ hs)
    simpa using h2
  have h3 := MM_nd.length_le_of_subset h1
  rw [MM_len] at h3
  omega
theorem filt_yes {α : Type} {p : α → Bool} {l : List α} {i : Nat} {x : α} (h : l[i]? = some x) (hp : p x = true) : (l.take (i + 1)).filter p = (l.take i).filter p ++ [x] := by
  rw [List.take_add_one, h, List.filter_append]
  simp [hp]
theorem filt_no {α : Type} {p : α → Bool} {l : List α} {i : Nat} {x : α} (h : l[i]? = some x) (hp : p x = false) : (l.take (i + 1)).filter p = (l.take i).filter p := by
  rw [List.take_add_one, h, List.filter_append]
  simp [hp]
theorem atI_lt {l : List Nat} {j : Nat} (h : j < l.length) : atI l (j : Int) = some l[j] := atI_nat (List.getElem?_eq_getElem h)
theorem strs_at {l : List Str} {j : Nat} (h : j < l.length) : (l.map V.str)[j]? = some (.str l[j]) := by
  rw [List.getElem?_map, List.getElem?_eq_getElem h]
  rfl
section
variable {P : Program} {w : World} {K : PySem.W.Frag} {mg : Str → Option Value} {base : Heap} {CN CR : Addr}
structure NamesP (ss : List Str) (n : Nat) : Prop where
  len : ss.length = n
  srt : sortedS ss = true
  nd : ss.Nodup
  val : ∀ s ∈ ss, Valid s
def sp_law_names (K : PySem.W.Frag) : Sp := fun vs H Q _ => ∃ (p : Addr) (row : List Nat) (n : Nat), vs = [.ref p, nV n] ∧ H p = some (.lst (row.map nV)) ∧ row.length = 5 ∧ n ≤ 5 ∧ Res H Q fun v H' => ∃ ss, StrL H' v ss ∧ NamesP ss n
theorem c_law_names (B : Bi mg) (D : DB K mg "_law_names" s_law_names ["_law_row", "_law_many"]) : C8.Cal P w K mg base 1 "_law_names" (sp_law_names K) [] := by
  obtain ⟨f, fd, F, b⟩ := D.ex
  have nd := sc_law_names.nd
  refine C8.cal0 F b .nil sc_law_names (fun vs H Q E h => by obtain ⟨p, row, n, rfl, _⟩ := h; rfl) fun cdv A outer s H vs Q E hr h => ?_
  obtain ⟨p, row, n, rfl, hp, hrow, hn, k⟩ := h
  refine ⟨(tSeq (tAsg (tLst (tCons (tC (.str "a")) (tCons (tC (.str "b")) (tCons (tC (.str "c")) (tCons (tC (.str "d")) (tCons (tC (.str "ab")) (tCons (tC (.str "a1")) (tCons (tC (.str "x")) (tCons (tC (.str "xy")) (tCons (tC (.str "z")) (tCons (tC (.str "m0")) (tCons (tC (.str "q7")) (tCons (tC (.str "a1b")) (tCons (tC (.str "b2c")) (tCons (tC (.str "zz9")) (tCons (tC (.str "k")) (tCons (tC (.str "longname")) (tCons (tC (.str "longnamd")) tNil)))))))))))))))))) (gName 2))
      (tSeq (tAsg (tOp rCat (tVar 2) (tLst (tCons (tC (.str "a1b0")) (tCons (tC (.str "lo")) (tCons (tC (.str "and")) (tCons (tC (.str "or")) (tCons (tC (.str "not")) (tCons (tC (.str "joins")) (tCons (tC (.str "degree")) (tCons (tC (.str "size")) (tCons (tC (.str "joint")) (tCons (tC (.str "even")) (tCons (tC (.str "press")) (tCons (tC (.str "swap")) (tCons (tC (.str "leave")) tNil))))))))))))))) (gName 2))
      (tSeq (tAsg (tOp rCat (tVar 2) (tLst (tCons (tC (.str "point")) (tCons (tC (.str "turn")) (tCons (tC (.str "undo")) (tCons (tC (.str "see")) (tCons (tC (.str "trial")) (tCons (tC (.str "narrow")) (tCons (tC (.str "enter")) tNil))))))))) (gName 2))
      (tSeq (tAsg (tLst tNil) (gName 3))
      (tSeq (tFor (iRng1 (tCons (tVar 1) tNil)) (gName 4) (tSeq (tAsg (tOp rDivI (tCB rInt1 (tCons (tOp (rIxL K) (tVar 0) (tVar 4)) tNil)) (tC (.int 3))) (gName 5))
        (tSeq (tAsg (tOp (rIxL K) (tVar 2) (tOp rModI (tCB rInt1 (tCons (tVar 5) tNil)) (tC (.int 37)))) (gName 6))
        (tSeq (tIfS (tTest (tOp rEq (tOp rModI (tCB rInt1 (tCons (tOp (rIxL K) (tVar 0) (tC (.int 0))) tNil)) (tC (.int 3))) (tC (.int 1)))) (tAsg (tOp rAddS (tOp rIxS (tC (.str "ab")) (tOp rModI (tCB rInt1 (tCons (tVar 5) tNil)) (tC (.int 2)))) (tOp (rIxL K) (tLst (tCons (tC (.str "1")) (tCons (tC (.str "2")) (tCons (tC (.str "3")) (tCons (tC (.str "9")) (tCons (tC (.str "10")) (tCons (tC (.str "11")) (tCons (tC (.str "12")) (tCons (tC (.str "20")) (tCons (tC (.str "100")) (tCons (tC (.str "101")) tNil))))))))))) (tOp rModI (tOp rDivI (tCB rInt1 (tCons (tVar 5) tNil)) (tC (.int 2))) (tC (.int 10))))) (gName 6)) tNext)
        (tSeq (tIfS (tTest (tOp rEq (tOp rModI (tCB rInt1 (tCons (tOp (rIxL K) (tVar 0) (tC (.int 0))) tNil)) (tC (.int 3))) (tC (.int 2)))) (tSeq (tAsg (tOp rIxS (tC (.str "abcdefghijklmnopqrstuvwxyz")) (tOp rModI (tOp rDivI (tCB rInt1 (tCons (tVar 5) tNil)) (tC (.int 8))) (tC (.int 26)))) (gName 6))
          (tSeq (tAsg (tOp rDivI (tCB rInt1 (tCons (tVar 5) tNil)) (tC (.int 208))) (gName 7))
          (tFor (iRng1 (tCons (tOp rModI (tCB rInt1 (tCons (tVar 5) tNil)) (tC (.int 8))) tNil)) (gName 8) (tSeq (tAsg (tOp rAddS (tVar 6) (tOp rIxS (tC (.str "abcdefghijklmnopqrstuvwxyz0123456789")) (tOp rModI (tCB rInt1 (tCons (tVar 7) tNil)) (tC (.int 36))))) (gName 6))
            (tAsg (tOp rDivI (tCB rInt1 (tCons (tVar 7) tNil)) (tC (.int 36))) (gName 7)))))) tNext)
        (tDrop (tBM K "list" rAppend (tVar 3) (tCons (tOp (rIxL K) (tLc (iList K (tOp rCat (tLst (tCons (tVar 6) tNil)) (tVar 2))) (gName 9) (tTest (tOp (rIn K true) (tVar 9) (tVar 3))) (tVar 9) [9]) (tC (.int 0))) tNil))))))))
      (tRet (tCB (rSortedS K) (tCons (tVar 3) tNil)))))))),
      (pss_cons (ps_set (i := 2) nd rfl (by first | exact Or.inl rfl | exact Or.inr rfl) (pe_lst (pa_cons pe_str (pa_cons pe_str (pa_cons pe_str (pa_cons pe_str (pa_cons pe_str (pa_cons pe_str (pa_cons pe_str (pa_cons pe_str (pa_cons pe_str (pa_cons pe_str (pa_cons pe_str (pa_cons pe_str (pa_cons pe_str (pa_cons pe_str (pa_cons pe_str (pa_cons pe_str (pa_cons pe_str pa_nil)))))))))))))))))))
      (pss_cons (ps_set (i := 2) nd rfl (by first | exact Or.inl rfl | exact Or.inr rfl) (pe_op op_cat (pv 2) (pe_lst (pa_cons pe_str (pa_cons pe_str (pa_cons pe_str (pa_cons pe_str (pa_cons pe_str (pa_cons pe_str (pa_cons pe_str (pa_cons pe_str (pa_cons pe_str (pa_cons pe_str (pa_cons pe_str (pa_cons pe_str (pa_cons pe_str pa_nil))))))))))))))))
      (pss_cons (ps_set (i := 2) nd rfl (by first | exact Or.inl rfl | exact Or.inr rfl) (pe_op op_cat (pv 2) (pe_lst (pa_cons pe_str (pa_cons pe_str (pa_cons pe_str (pa_cons pe_str (pa_cons pe_str (pa_cons pe_str (pa_cons pe_str pa_nil))))))))))
      (pss_cons (ps_set (i := 3) nd rfl (by first | exact Or.inl rfl | exact Or.inr rfl) (pe_lst pa_nil))
      (pss_cons (ps_for PassesOwn.never rfl (pi_range1 (by rfl) B.range (pa_cons (pv 1) pa_nil)) (pg_name (i := 4) nd rfl (by first | exact Or.inl rfl | exact Or.inr rfl)) (pss_cons (ps_set (i := 5) nd rfl (by first | exact Or.inl rfl | exact Or.inr rfl) (pe_op op_fdivW (pe_callTy call_int1 (by rfl) B.int (by decide +kernel) (pa_cons (pe_ix ix_list (pv 0) (pv 4) (fun _ _ => rfl)) pa_nil)) pe_int))
        (pss_cons (ps_set (i := 6) nd rfl (by first | exact Or.inl rfl | exact Or.inr rfl) (pe_ix ix_list (pv 2) (pe_op op_mod (pe_callTy call_int1 (by rfl) B.int (by decide +kernel) (pa_cons (pv 5) pa_nil)) pe_int) (fun _ _ => rfl)))
        (pss_cons (ps_if (pt_cmpR op_eq (pe_op op_mod (pe_callTy call_int1 (by rfl) B.int (by decide +kernel) (pa_cons (pe_ix ix_list (pv 0) pe_int (fun _ _ => rfl)) pa_nil)) pe_int) pe_int (nomark _)) (pss_one (ps_set (i := 6) nd rfl (by first | exact Or.inl rfl | exact Or.inr rfl) (pe_op op_add_str (pe_ix ix_str pe_str (pe_op op_mod (pe_callTy call_int1 (by rfl) B.int (by decide +kernel) (pa_cons (pv 5) pa_nil)) pe_int) (fun _ _ => rfl)) (pe_ix ix_list (pe_lst (pa_cons pe_str (pa_cons pe_str (pa_cons pe_str (pa_cons pe_str (pa_cons pe_str (pa_cons pe_str (pa_cons pe_str (pa_cons pe_str (pa_cons pe_str (pa_cons pe_str pa_nil))))))))))) (pe_op op_mod (pe_op op_fdivW (pe_callTy call_int1 (by rfl) B.int (by decide +kernel) (pa_cons (pv 5) pa_nil)) pe_int) pe_int) (fun _ _ => rfl))))) pss_nil)
        (pss_cons (ps_if (pt_cmpR op_eq (pe_op op_mod (pe_callTy call_int1 (by rfl) B.int (by decide +kernel) (pa_cons (pe_ix ix_list (pv 0) pe_int (fun _ _ => rfl)) pa_nil)) pe_int) pe_int (nomark _)) (pss_cons (ps_set (i := 6) nd rfl (by first | exact Or.inl rfl | exact Or.inr rfl) (pe_ix ix_str pe_str (pe_op op_mod (pe_op op_fdivW (pe_callTy call_int1 (by rfl) B.int (by decide +kernel) (pa_cons (pv 5) pa_nil)) pe_int) pe_int) (fun _ _ => rfl)))
          (pss_cons (ps_set (i := 7) nd rfl (by first | exact Or.inl rfl | exact Or.inr rfl) (pe_op op_fdivW (pe_callTy call_int1 (by rfl) B.int (by decide +kernel) (pa_cons (pv 5) pa_nil)) pe_int))
          (pss_one (ps_for PassesOwn.never rfl (pi_range1 (by rfl) B.range (pa_cons (pe_op op_mod (pe_callTy call_int1 (by rfl) B.int (by decide +kernel) (pa_cons (pv 5) pa_nil)) pe_int) pa_nil)) (pg_name (i := 8) nd rfl (by first | exact Or.inl rfl | exact Or.inr rfl)) (pss_cons (ps_set (i := 6) nd rfl (by first | exact Or.inl rfl | exact Or.inr rfl) (pe_op op_add_str (pv 6) (pe_ix ix_str pe_str (pe_op op_mod (pe_callTy call_int1 (by rfl) B.int (by decide +kernel) (pa_cons (pv 7) pa_nil)) pe_int) (fun _ _ => rfl))))
            (pss_one (ps_set (i := 7) nd rfl (by first | exact Or.inl rfl | exact Or.inr rfl) (pe_op op_fdivW (pe_callTy call_int1 (by rfl) B.int (by decide +kernel) (pa_cons (pv 7) pa_nil)) pe_int)))))))) pss_nil)
        (pss_one (ps_expr (pe_bm PySem.F.plainAttrs_list PySem.F.slot_list_append PySem.F.type_list_append mt_append (pv 3) (pa_cons (pe_ix ix_list (pe_lc (own := [("_law_name", 9)]) (g := (gName 9)) (tt := (tTest (tOp (rIn K true) (tVar 9) (tVar 3)))) (te := (tVar 9)) rfl nd (pi_list (pe_op op_cat (pe_lst (pa_cons (pv 6) pa_nil)) (pv 2))) (blkOk_by (N := ["_law_row", "_law_many", "_law_menu", "_law_names_here", "_law_k", "_law_rest", "_law_text", "_law_tail", "_law_turn", "_law_name"]) (sc := C8.fnScope s_law_names) (own := [("_law_name", 9)]) (by decide +kernel)) (fun _ _ _ _ _ => (pg_name (i := 9) nd rfl (by first | exact Or.inl rfl | exact Or.inr rfl))) (fun _ _ _ _ _ => (pts_one (pt_cmpR op_notIn_seq (pv 9) (pv 3) rfl))) (fun _ _ _ _ _ => (pv 9))) pe_int (fun _ _ => rfl)) pa_nil)))))))))
      (pss_one (ps_ret (pe_callB cr_sortedS (by rfl) B.sorted (by decide +kernel) (pa_cons (pv 3) pa_nil))))))))), ?_⟩
  change tSeq _ _ _ [some (V.ref p), some (nV n), none, none, none, none, none, none, none, none] H
  walk_at "go"
  refine ⟨by show 17 ≤ sizeLine; decide, fun m1 nm1 => ?_⟩
  obtain ⟨s1, em1⟩ := layL nm1 (M1.map V.str)
  walk_at "go"
  refine ⟨by show 13 ≤ sizeLine; decide, fun m2 nm2 => ?_⟩
  obtain ⟨s2, em2⟩ := layL nm2 (M2.map V.str)
  refine ⟨m1, m2, M1.map V.str, M2.map V.str, rfl, rfl, s2 _ _ em1, em2, by show 30 ≤ sizeLine; decide, fun m3 nm3 => ?_⟩
  obtain ⟨s3, em3⟩ := layL nm3 (M1.map V.str ++ M2.map V.str)
  walk_at "go"
  refine ⟨by show 7 ≤ sizeLine; decide, fun m4 nm4 => ?_⟩
  obtain ⟨s4, em4⟩ := layL nm4 (M3.map V.str)
  refine ⟨m3, m4, M1.map V.str ++ M2.map V.str, M3.map V.str, rfl, rfl, s4 _ _ em3, em4, by show 37 ≤ sizeLine; decide, fun m5 nm5 => ?_⟩
  obtain ⟨s5, em5⟩ := layL nm5 (M1.map V.str ++ M2.map V.str ++ M3.map V.str)
  have s15 := s1.trans (s2.trans (s3.trans (s4.trans s5)))
  have eMM : M1.map V.str ++ M2.map V.str ++ M3.map V.str = MM.map V.str := by rw [MM, List.map_append, List.map_append]
  have em5 := em5.trans (by rw [eMM])
  walk_at "go"
  refine ⟨Nat.zero_le _, fun L nL => ?_⟩
  obtain ⟨s6, eL⟩ := layL nL []
  walk_at "go"
  have s16 := s15.trans s6
  have nLH : H L = none := by
    cases hh : H L with
    | none => rfl
    | some o => rw [s15 _ _ hh] at nL; cases nL
  have hmL : m5 ≠ L := by rintro rfl; rw [em5] at nL; cases nL
  refine w_r1 (n := n) (fun i σ' H' => ∃ v4 v5 v6 v7 v8, ∃ ss : List Str, σ' = [some (V.ref p), some (nV n), some (V.ref m5), some (V.ref L), v4, v5, v6, v7, v8, none] ∧ Same H H' ∧ H' m5 = some (.lst (MM.map V.str)) ∧ H' L = some (.lst (ss.map V.str)) ∧ ss.length = i ∧ ss.Nodup ∧ ∀ s ∈ ss, Valid s) (by omega) ?_ ?_ ?_
  · exact ⟨_, _, _, _, _, [], rfl, s16, s6 _ _ em5, eL, rfl, .nil, fun s hs => by cases hs⟩
  · rintro i σ' H1 hi ⟨v4, v5, v6, v7, v8, ss, rfl, s7, eM, eL, hsl, hsn, hsv⟩
    -- the end of a turn, for any name drawn
    have fin : ∀ (H2 : Hp) (t : Str) (r : V) (v7 v8 : Option V) (D : Ends), Valid t → Same H H2 → H2 m5 = some (.lst (MM.map V.str)) → H2 L = some (.lst (ss.map V.str)) →
        (∀ (H3 : Hp) (v4 v5 v6 v7 v8 : Option V) (zz : List Str), Same H H3 → H3 m5 = some (.lst (MM.map V.str)) → H3 L = some (.lst (zz.map V.str)) → zz.length = i + 1 → zz.Nodup → (∀ s ∈ zz, Valid s) → D.nx [some (V.ref p), some (nV n), some (V.ref m5), some (V.ref L), v4, v5, v6, v7, v8, none] H3) →
        tDrop (tBM K "list" rAppend (tVar 3) (tCons (tOp (rIxL K) (tLc (iList K (tOp rCat (tLst (tCons (tVar 6) tNil)) (tVar 2))) (gName 9) (tTest (tOp (rIn K true) (tVar 9) (tVar 3))) (tVar 9) [9]) (tC (.int 0))) tNil)) D
          [some (V.ref p), some (nV n), some (V.ref m5), some (V.ref L), some (nV i), some r, some (V.str t), v7, v8, none] H2 := by
      intro H2 t r v7 v8 D ht s8 eM2 eL2 next
      walk_at "go"
      refine r_tyL eL2 ?_
      walk_at "go"
      refine ⟨by show 1 ≤ sizeLine; decide, fun u1 nu1 => ?_⟩
      obtain ⟨s9, eu1⟩ := layL nu1 [V.str t]
      walk_at "go"
      refine ⟨u1, m5, [V.str t], MM.map V.str, rfl, rfl, eu1, s9 _ _ eM2, by show 38 ≤ sizeLine; decide, fun u2 nu2 => ?_⟩
      obtain ⟨s10, eu2⟩ := layL nu2 ([V.str t] ++ MM.map V.str)
      have s11 := s9.trans s10
      refine c_l (xs := (t :: MM).map V.str) (fun j acc _ => acc = (((t :: MM).take j).filter fun s => !decide (s ∈ ss)).map V.str) (fun _ _ _ _ _ e => e) eu2 rfl (fun D acc j x H' hD hx hj s e z rr => ?_) (fun l H3 acc nl s12 el _ ea => ?_)
      · rw [List.length_map] at hj
        rw [strs_at hj] at hx
        cases hx
        have hgj : (t :: MM)[j]? = some (t :: MM)[j] := List.getElem?_eq_getElem hj
        generalize (t :: MM)[j] = w0 at *
        have hj2 : j < 38 := hj
        refine ⟨rfl, ?_⟩
        walk_at "go"
        refine r_niLs (s _ _ (s11 _ _ eL2)) ?_
        walk_at "go"
        cases hb : decide (w0 ∈ ss) with
        | true =>
          refine iteF ?_
          exact lc_no s e z (by rw [rr, filt_no hgj (by rw [hb]; rfl)])
        | false =>
          refine iteT ?_
          walk_at "go"
          refine lc_yes (fun _ _ _ _ _ e => e) hD s e z (by omega) ?_
          rw [rr, filt_yes hgj (by rw [hb]; rfl), List.map_append]
          rfl
      rw [List.length_map, List.take_of_length_le (Nat.le_refl _)] at ea
      have hne := not_all (ss := ss) (t := t) (by omega)
      have hmem : ∀ s ∈ (t :: MM).filter (fun s => !decide (s ∈ ss)), Valid s ∧ s ∉ ss := by
        intro s hs
        obtain ⟨h1, h2⟩ := List.mem_filter.mp hs
        refine ⟨?_, by simpa using h2⟩
        rcases List.mem_cons.mp h1 with rfl | h1
        · exact ht
        · exact MM_valid s h1
      generalize (t :: MM).filter (fun s => !decide (s ∈ ss)) = fl at *
      cases fl with
      | nil => exact absurd rfl hne
      | cons z0 fr =>
        subst ea
        obtain ⟨hz1, hz2⟩ := hmem z0 (List.mem_cons_self ..)
        walk_at "go"
        refine r_ixL0 0 rfl el rfl ?_
        walk_at "go"
        have s13 := s11.trans s12
        refine r_append (s13 _ _ eL2) (by rw [List.length_map]; omega) ?_
        refine next _ _ _ _ _ _ (ss ++ [z0]) ((s8.trans s13).chg nLH) ?_ ?_ (by rw [List.length_append, List.length_singleton, hsl]) ?_ ?_
        · rw [upd_ne hmL]
          exact s13 _ _ eM2
        · rw [upd_same, List.map_append]
          rfl
        · rw [List.nodup_append]
          exact ⟨hsn, by simp, fun a ha b hb => by rw [List.mem_singleton.mp hb]; rintro rfl; exact hz2 ha⟩
        · intro s hs
          rcases List.mem_append.mp hs with hs | hs
          · exact hsv s hs
          · rw [List.mem_singleton.mp hs]
            exact hz1
    walk_at "go"
    refine r_ixL (s7 _ _ hp) (ns_at (by omega)) ?_
    walk_at "go"
    refine r_divC 3 rfl (by decide) (by decide) ?_
    generalize g row i / 3 = rest
    walk_at "go"
    refine r_modC 37 rfl (by decide) ?_
    have h37 : rest % 37 < MM.length := Nat.mod_lt _ (by decide)
    refine r_ixL eM (strs_at h37) ?_
    have hv0 : Valid MM[rest % 37] := MM_valid _ (List.getElem_mem h37)
    generalize MM[rest % 37] = t0 at *
    walk_at "go"
    refine r_ixL0 0 rfl (s7 _ _ hp) (ns_at (by omega)) ?_
    walk_at "go"
    refine r_modC 3 rfl (by decide) ?_
    walk_at "go"
    -- the second choice, after the first
    have two : ∀ (H2 : Hp) (t : Str) (D : Ends), Valid t → Same H H2 → H2 m5 = some (.lst (MM.map V.str)) → H2 L = some (.lst (ss.map V.str)) →
        (∀ (H3 : Hp) (t : Str) (v7 v8 : Option V), Valid t → Same H H3 → H3 m5 = some (.lst (MM.map V.str)) → H3 L = some (.lst (ss.map V.str)) → D.nx [some (V.ref p), some (nV n), some (V.ref m5), some (V.ref L), some (nV i), some (nV rest), some (V.str t), v7, v8, none] H3) →
        tIfS (tTest (tOp rEq (tOp rModI (tCB rInt1 (tCons (tOp (rIxL K) (tVar 0) (tC (.int 0))) tNil)) (tC (.int 3))) (tC (.int 2)))) (tSeq (tAsg (tOp rIxS (tC (.str "abcdefghijklmnopqrstuvwxyz")) (tOp rModI (tOp rDivI (tCB rInt1 (tCons (tVar 5) tNil)) (tC (.int 8))) (tC (.int 26)))) (gName 6))
          (tSeq (tAsg (tOp rDivI (tCB rInt1 (tCons (tVar 5) tNil)) (tC (.int 208))) (gName 7))
          (tFor (iRng1 (tCons (tOp rModI (tCB rInt1 (tCons (tVar 5) tNil)) (tC (.int 8))) tNil)) (gName 8) (tSeq (tAsg (tOp rAddS (tVar 6) (tOp rIxS (tC (.str "abcdefghijklmnopqrstuvwxyz0123456789")) (tOp rModI (tCB rInt1 (tCons (tVar 7) tNil)) (tC (.int 36))))) (gName 6))
            (tAsg (tOp rDivI (tCB rInt1 (tCons (tVar 7) tNil)) (tC (.int 36))) (gName 7)))))) tNext D
          [some (V.ref p), some (nV n), some (V.ref m5), some (V.ref L), some (nV i), some (nV rest), some (V.str t), v7, v8, none] H2 := by
      intro H2 t D ht s8 eM2 eL2 next
      walk_at "go"
      refine r_ixL0 0 rfl (s8 _ _ hp) (ns_at (by omega)) ?_
      walk_at "go"
      refine r_modC 3 rfl (by decide) ?_
      walk_at "go"
      refine ite2 (fun _ => ?_) (fun _ => ?_)
      · walk_at "go"
        refine r_divC 8 rfl (by decide) (by decide) ?_
        walk_at "go"
        refine r_modC 26 rfl (by decide) ?_
        have h26 : rest / 8 % 26 < sLETTERS.cps.toList.length := Nat.mod_lt _ (by decide)
        refine ⟨sLETTERS, _, _, rfl, rfl, by show 26 ≤ sizeLine; decide, atI_lt h26, ?_⟩
        have hc := List.getElem_mem h26
        generalize sLETTERS.cps.toList[rest / 8 % 26] = c0 at *
        rw [let_eq] at hc
        walk_at "go"
        refine r_divC 208 rfl (by decide) (by decide) ?_
        walk_at "go"
        refine r_modC 8 rfl (by decide) ?_
        walk_at "go"
        have h8 : rest % 8 < 8 := Nat.mod_lt _ (by decide)
        refine w_r1 (n := rest % 8) (fun j σ' H' => ∃ (t : Str) (tl : Nat) (v8 : Option V), σ' = [some (V.ref p), some (nV n), some (V.ref m5), some (V.ref L), some (nV i), some (nV rest), some (V.str t), some (nV tl), v8, none] ∧ H' = H2 ∧ Valid t ∧ t.cps.toList.length = j + 1) (by omega) ?_ ?_ ?_
        · exact ⟨_, _, _, rfl, rfl, one_valid hc, rfl⟩
        · rintro j σ' H' hj ⟨t, tl, v8, rfl, rfl, hvt, htl⟩
          walk_at "go"
          refine r_modC 36 rfl (by decide) ?_
          have h36 : tl % 36 < sALN.cps.toList.length := Nat.mod_lt _ (by decide)
          refine ⟨sALN, _, _, rfl, rfl, by show 36 ≤ sizeLine; decide, atI_lt h36, ?_⟩
          have hc2 := aln_mem _ (List.getElem_mem h36)
          generalize sALN.cps.toList[tl % 36] = c1 at *
          refine ⟨t, ⟨#[c1]⟩, rfl, rfl, ?_, ?_⟩
          · rw [str_len, htl]
            exact Nat.le_trans (show j + 1 + 1 ≤ 100 by omega) (by decide)
          walk_at "go"
          refine r_divC 36 rfl (by decide) (by decide) ?_
          refine ⟨_, _, _, rfl, rfl, app_valid hvt (by omega) hc2, ?_⟩
          rw [app_cps, List.length_append, htl]
          rfl
        · rintro σ' H' ⟨t, tl, v8, rfl, rfl, hvt, htl⟩
          exact next _ _ _ _ hvt s8 eM2 eL2
      · walk_at "go"
        exact next _ _ _ _ ht s8 eM2 eL2
    refine ite2 (fun _ => ?_) (fun _ => ?_)
    · walk_at "go"
      refine r_modC 2 rfl (by decide) ?_
      have h2 : rest % 2 < sAB.cps.toList.length := Nat.mod_lt _ (by decide)
      refine ⟨sAB, _, _, rfl, rfl, by show 2 ≤ sizeLine; decide, atI_lt h2, ?_⟩
      have hc := List.getElem_mem h2
      generalize sAB.cps.toList[rest % 2] = c0 at *
      have hc2 : c0 ∈ [97, 98] := hc
      walk_at "go"
      refine ⟨by show 10 ≤ sizeLine; decide, fun u nu => ?_⟩
      obtain ⟨s8, eu⟩ := layL nu (T10.map V.str)
      walk_at "go"
      refine r_divC 2 rfl (by decide) (by decide) ?_
      walk_at "go"
      refine r_modC 10 rfl (by decide) ?_
      have h10 : rest / 2 % 10 < T10.length := Nat.mod_lt _ (by decide)
      refine r_ixL eu (strs_at h10) ?_
      have hm := List.getElem_mem h10
      generalize T10[rest / 2 % 10] = t1 at *
      refine ⟨⟨#[c0]⟩, t1, rfl, rfl, ?_, ?_⟩
      · have h3 := T10_small t1 hm
        have h4 : (⟨#[c0]⟩ : Str).length = 1 := rfl
        rw [h4]
        exact Nat.le_trans (show 1 + t1.length ≤ 100 by omega) (by decide)
      refine two _ _ _ (T10_valid c0 hc2 t1 hm) (s7.trans s8) (s8 _ _ eM) (s8 _ _ eL) fun H3 t v7 v8 ht s9 e1 e2 => ?_
      refine fin _ t _ v7 v8 _ ht s9 e1 e2 fun H4 v4 v5 v6 v7 v8 zz q1 q2 q3 q4 q5 q6 => ?_
      exact ⟨_, _, _, _, _, zz, rfl, q1, q2, q3, q4, q5, q6⟩
    · refine r_next ?_
      refine two _ _ _ hv0 s7 eM eL fun H3 t v7 v8 ht s9 e1 e2 => ?_
      refine fin _ t _ v7 v8 _ ht s9 e1 e2 fun H4 v4 v5 v6 v7 v8 zz q1 q2 q3 q4 q5 q6 => ?_
      exact ⟨_, _, _, _, _, zz, rfl, q1, q2, q3, q4, q5, q6⟩
  · rintro σ' H1 ⟨v4, v5, v6, v7, v8, ss, rfl, s7, eM, eL, hsl, hsn, hsv⟩
    walk_at "go"
    refine ⟨L, ss, rfl, SqL.of eL, by omega, fun ys q hyp hys nq => ?_⟩
    obtain ⟨s8, eq⟩ := layL nq (ys.map V.str)
    exact k _ _ (s7.trans s8) ⟨ys, ⟨q, rfl, eq⟩, ⟨by rw [hyp.length_eq, hsl], hys, hyp.nodup_iff.mpr hsn, fun s hs => hsv s (hyp.mem_iff.mp hs)⟩⟩
end
end K81
end

section
open PySem PySem.Spec PyProof.Rows L2

namespace K81
local macro_rules | `(tactic| walk_at "s1") => `(tactic| first
  | with_reducible refine r_seq ?_
  | with_reducible refine r_asg ?_
  | with_reducible refine r_ret ?_
  | with_reducible refine r_if ?_
  | with_reducible refine r_app ?_
  | with_reducible refine r_drop ?_
  | with_reducible refine r_asgS ?_
  | with_reducible refine r_op ?_
  | with_reducible refine r_c ?_
  | ((with_reducible refine' r_var ?hv ?_); (case hv => exact rfl))
  | with_reducible refine r_cb ?_
  | with_reducible refine r_cons ?_
  | with_reducible refine r_nil ?_
  | with_reducible refine r_test ?_
  | with_reducible refine r_tB ?_
  | with_reducible refine r_not ?_
  | with_reducible refine r_and ?_
  | with_reducible refine r_or ?_
  | with_reducible refine r_call ?_
  | with_reducible refine r_tup ?_
  | with_reducible refine r_for1 ?_
  | with_reducible refine r_for2 ?_
  | with_reducible refine r_forT ?_
  | with_reducible refine r_forL ?_
  | with_reducible refine r_lc1 ?_
  | with_reducible refine r_lcT ?_
  | with_reducible refine r_lcL ?_
  | with_reducible refine r_lcE ?_
  | with_reducible refine r_lst ?_
  | with_reducible refine r_yes ?_
  | with_reducible refine r_next ?_
  | with_reducible refine r_nat ?_
  | with_reducible refine r_nat1 ?_
  | with_reducible refine r_i0 ?_
  | with_reducible refine r_int1 ?_
  | ((with_reducible refine' r_eq ?hs ?_); (case hs => exact rfl))
  | ((with_reducible refine' r_ne ?hs ?_); (case hs => exact rfl))
  | with_reducible refine r_bitT ?_
  | with_reducible refine r_tfld ?_
  | with_reducible refine r_tsfld ?_
  | with_reducible refine r_make ?_
  | with_reducible refine r_sl ?_
  | with_reducible refine r_part ?_
  | with_reducible refine r_nopart ?_
  | with_reducible refine r_callK ?_
  | with_reducible refine r_gN ?_
  | with_reducible refine r_din ?_
  | with_reducible refine r_dnin ?_
  | with_reducible refine r_dget ?_
  | with_reducible refine r_dput ?_
  | ((with_reducible refine' r_aug ?hv ?_); (case hv => exact rfl))
  | with_reducible refine r_bl ?_)
local macro_rules | `(tactic| walk_at "go") => `(tactic| repeat walk_at "s1")

abbrev s_law : Stmt := topS 52
theorem sc_law : FnScope ["_law_script", "_law_row", "_law_size", "_law_sizes", "_law_masks_here", "_law_many", "_law_drawn", "_law_second_here", "_law_called", "_law_fresh", "_law_names_here", "_law_others", "_law_net_here", "_law_other", "_law_due_here", "_law_name"] ["_law_script"] (C8.fnScope s_law) := C8.fnScope_by (by decide +kernel)

/-! ### the lists of the law -/
def R0 : List Nat := [32, 8, 60, 60, 60, 60, 60, 60, 60, 120, 3]
def SZ : List Nat := [4, 5, 3, 4, 0, 1, 2, 2, 3, 3, 3, 4, 4, 4, 4, 4, 4, 4, 4, 4, 4, 4, 4, 4, 5, 5, 5, 5, 5, 5, 3, 4]
def MS : List Nat := [12, 4, 4, 4, 4, 4, 4, 4, 4, 4, 4, 4, 4, 4, 4, 4, 60, 60, 60, 60, 60]
def MY : List Nat := [1, 0, 3, 4, 5, 4]
def NS5 : List Nat := List.replicate 5 (624 * 36 ^ 7)
def TS : List Nat := [10, 6, 6, 6, 6, 6, 6, 6, 6, 6, 6, 6, 6, 6, 6, 6]
/-- the renaming of a net to itself -/
theorem ren_self {ss : List Str} {c : Core} (N : NetP ss c) : ren ss c ss c = some (ss.map fun s => (s, s), []) := by
  obtain ⟨r, e⟩ := orders_pos N.five
  have hm : moved ss.length c (List.range ss.length) = c := moved_id N.good
  have h0 := reach_self ss.length c
  have hok := reach_ok N.good
  have hin : c ∈ (reach ss.length c).map (·.1) := List.mem_map.mpr ⟨_, h0, rfl⟩
  have hrow := rowOf_mem hin
  have e1 := ren_at (ss := ss) (tt := ss) (c1 := c) (c2 := c) (i := 0) (o := List.range ss.length) rfl (fun y hy => by cases hy) (by rw [e]; rfl) (by rw [hit, hm]; exact decide_eq_true hin)
  rw [e1, renAns, hm, key_one hok.nd hrow h0]
  congr 1
  congr 1
  refine List.ext_getElem? fun i => ?_
  rw [renPairs, List.getElem?_map, List.getElem?_map]
  by_cases hi : i < ss.length
  · rw [List.getElem?_range hi, sg_get hi]
    simp only [Option.map_some]
    rw [g_range hi]
  · rw [List.getElem?_eq_none (by simpa using hi), List.getElem?_eq_none (by omega)]
    rfl
section
variable {P : Program} {w : World} {K : PySem.W.Frag} {mg : Str → Option Value} {base : Heap} {CN CR : Addr}
def sp_law (K : PySem.W.Frag) : Sp := fun vs H Q _ => ∃ (p : Addr) (zs : List Int), vs = [.ref p] ∧ SqL K H p (zs.map V.int) ∧ Res H Q fun v _ => v = .bl true
structure Callees (P : Program) (w : World) (K : PySem.W.Frag) (mg : Str → Option Value) (base : Heap) (CN CR : Addr) : Prop where
  cell : C8.Cal P w K mg base 1 "_law_cell" (sp_law_cell K) []
  digits : C8.Cal P w K mg base 1 "_law_digits" (sp_law_digits K) []
  masks : C8.Cal P w K mg base 2 "_law_masks" (sp_law_masks K) []
  second : C8.Cal P w K mg base 3 "_law_second" (sp_law_second K) []
  names : C8.Cal P w K mg base 1 "_law_names" (sp_law_names K) []
  net : C8.Cal P w K mg base 5 "_law_net" (sp_law_net K CN) []
  due : C8.Cal P w K mg base 4 "_law_due" (sp_law_due K) []
  right : C8.Cal P w K mg base 8 "_law_right" (sp_law_right K CN CR) []
  isnet : C8.Cal P w K mg base 2 "_law_is_net" (sp_law_is_net K CN) []
theorem r_rep {H : Hp} {Q : VK} {l : Addr} {xs : List V} (k : Nat) {j : Int} (e : j = (k : Int)) (hl : H l = some (.lst xs)) (hk : k ≤ 1000) (hx : xs.length ≤ 1000) (q : ∀ p, H p = none → Q (.ref p) (upd H p (.lst (List.replicate k xs).flatten))) : rRep (.ref l) (.int j) H Q := by
  subst e
  refine ⟨l, k, xs, rfl, rfl, hl, by omega, by omega, ?_, by rw [Int.toNat_natCast]; exact q⟩
  rw [Int.toNat_natCast]
  exact Nat.le_trans (Nat.mul_le_mul hx hk) (by decide)
theorem c_law (B : Bi mg) (c : Callees P w K mg base CN CR) {f : Addr} {fd : FuncData} (F : C8.Fun K "law" "law" s_law f fd) : FnOk P w K mg base C8.CX0 9 f fd ["_law_script"] (sp_law K) := by
  have nd := sc_law.nd
  have c_law_cell := c.cell
  have c_law_digits := c.digits
  have c_law_masks := c.masks
  have c_law_second := c.second
  have c_law_names := c.names
  have c_law_net := c.net
  have c_law_due := c.due
  have c_law_right := c.right
  have c_law_is_net := c.isnet
  refine C8.fn0 F sc_law (fun vs H Q E h => by obtain ⟨p, zs, rfl, _⟩ := h; rfl) fun cdv A outer s H vs Q E hr h => ?_
  obtain ⟨p, zs, rfl, hp, k⟩ := h
  refine ⟨(tSeq (tAsg (tCall (sp_law_digits K) [] C8.E0 (tCons (tCall (sp_law_cell K) [] C8.E0 (tCons (tVar 0) (tCons (tC (.int 0)) tNil))) (tCons (tLst (tCons (tC (.int 32)) (tCons (tC (.int 8)) (tCons (tC (.int 60)) (tCons (tC (.int 60)) (tCons (tC (.int 60)) (tCons (tC (.int 60)) (tCons (tC (.int 60)) (tCons (tC (.int 60)) (tCons (tC (.int 60)) (tCons (tC (.int 120)) (tCons (tC (.int 3)) tNil)))))))))))) tNil))) (gName 1))
      (tSeq (tAsg (tOp (rIxL K) (tLst (tCons (tC (.int 4)) (tCons (tC (.int 5)) (tCons (tC (.int 3)) (tCons (tC (.int 4)) (tCons (tC (.int 0)) (tCons (tC (.int 1)) (tCons (tC (.int 2)) (tCons (tC (.int 2)) (tCons (tC (.int 3)) (tCons (tC (.int 3)) (tCons (tC (.int 3)) (tCons (tC (.int 4)) (tCons (tC (.int 4)) (tCons (tC (.int 4)) (tCons (tC (.int 4)) (tCons (tC (.int 4)) (tCons (tC (.int 4)) (tCons (tC (.int 4)) (tCons (tC (.int 4)) (tCons (tC (.int 4)) (tCons (tC (.int 4)) (tCons (tC (.int 4)) (tCons (tC (.int 4)) (tCons (tC (.int 4)) (tCons (tC (.int 5)) (tCons (tC (.int 5)) (tCons (tC (.int 5)) (tCons (tC (.int 5)) (tCons (tC (.int 5)) (tCons (tC (.int 5)) (tCons (tC (.int 3)) (tCons (tC (.int 4)) tNil))))))))))))))))))))))))))))))))) (tOp (rIxL K) (tVar 1) (tC (.int 0)))) (gName 2))
      (tSeq (tAsg (tOp rCat (tOp rCat (tLst (tCons (tC (.int 12)) tNil)) (tOp rRep (tLst (tCons (tC (.int 4)) tNil)) (tC (.int 15)))) (tOp rRep (tLst (tCons (tC (.int 60)) tNil)) (tC (.int 5)))) (gName 3))
      (tSeq (tAsg (tCall (sp_law_masks K) [] C8.E0 (tCons (tCall (sp_law_digits K) [] C8.E0 (tCons (tCall (sp_law_cell K) [] C8.E0 (tCons (tVar 0) (tCons (tC (.int 1)) tNil))) (tCons (tVar 3) tNil))) (tCons (tVar 2) tNil))) (gName 4))
      (tSeq (tAsg (tVar 2) (gName 5))
      (tSeq (tIfS (tTest (tOp rEq (tOp (rIxL K) (tVar 1) (tC (.int 1))) (tC (.int 7)))) (tAsg (tOp (rIxL K) (tLst (tCons (tC (.int 1)) (tCons (tC (.int 0)) (tCons (tC (.int 3)) (tCons (tC (.int 4)) (tCons (tC (.int 5)) (tCons (tC (.int 4)) tNil))))))) (tVar 2)) (gName 5)) tNext)
      (tSeq (tAsg (tCall (sp_law_masks K) [] C8.E0 (tCons (tCall (sp_law_digits K) [] C8.E0 (tCons (tCall (sp_law_cell K) [] C8.E0 (tCons (tVar 0) (tCons (tC (.int 2)) tNil))) (tCons (tVar 3) tNil))) (tCons (tVar 5) tNil))) (gName 6))
      (tSeq (tAsg (tVar 6) (gName 7))
      (tSeq (tIfS (tTest (tOp rEq (tVar 5) (tVar 2))) (tAsg (tCall (sp_law_second K) [] C8.E0 (tCons (tVar 4) (tCons (tSl (rSlL K) (tVar 1) (tPart (tC (.int 1))) tNoPart) (tCons (tVar 6) tNil)))) (gName 7)) tNext)
      (tSeq (tAsg (tCall (sp_law_digits K) [] C8.E0 (tCons (tCall (sp_law_cell K) [] C8.E0 (tCons (tVar 0) (tCons (tC (.int 3)) tNil))) (tCons (tOp rRep (tLst (tCons (tOp rMulI (tC (.int 624)) (tOp rPowI (tC (.int 36)) (tC (.int 7)))) tNil)) (tC (.int 5))) tNil))) (gName 8))
      (tSeq (tAsg (tCall (sp_law_digits K) [] C8.E0 (tCons (tCall (sp_law_cell K) [] C8.E0 (tCons (tVar 0) (tCons (tC (.int 4)) tNil))) (tCons (tOp rRep (tLst (tCons (tOp rMulI (tC (.int 624)) (tOp rPowI (tC (.int 36)) (tC (.int 7)))) tNil)) (tC (.int 5))) tNil))) (gName 9))
      (tSeq (tAsg (tCall (sp_law_names K) [] C8.E0 (tCons (tVar 8) (tCons (tVar 2) tNil))) (gName 10))
      (tSeq (tAsg (tCall (sp_law_names K) [] C8.E0 (tCons (tOp (rIxL K) (tLst (tCons (tVar 8) (tCons (tOp rCat (tSl (rSlL K) (tVar 8) tNoPart (tPart (tC (.int 2)))) (tSl (rSlL K) (tVar 9) (tPart (tC (.int 2))) tNoPart)) (tCons (tVar 9) tNil)))) (tOp (rIxL K) (tVar 1) (tC (.int 10)))) (tCons (tVar 5) tNil))) (gName 11))
      (tSeq (tAsg (tCall (sp_law_net K CN) [] C8.E0 (tCons (tVar 10) (tCons (tVar 4) (tCons (tCall (sp_law_digits K) [] C8.E0 (tCons (tCall (sp_law_cell K) [] C8.E0 (tCons (tVar 0) (tCons (tC (.int 5)) tNil))) (tCons (tOp rCat (tLst (tCons (tC (.int 10)) tNil)) (tOp rRep (tLst (tCons (tC (.int 6)) tNil)) (tC (.int 15)))) tNil))) tNil)))) (gName 12))
      (tSeq (tAsg (tCall (sp_law_net K CN) [] C8.E0 (tCons (tVar 11) (tCons (tVar 7) (tCons (tCall (sp_law_digits K) [] C8.E0 (tCons (tCall (sp_law_cell K) [] C8.E0 (tCons (tVar 0) (tCons (tC (.int 6)) tNil))) (tCons (tOp rCat (tLst (tCons (tC (.int 10)) tNil)) (tOp rRep (tLst (tCons (tC (.int 6)) tNil)) (tC (.int 15)))) tNil))) tNil)))) (gName 13))
      (tSeq (tAsg (tCall (sp_law_due K) [] C8.E0 (tCons (tVar 10) (tCons (tVar 4) (tCons (tVar 11) (tCons (tVar 7) tNil))))) (gName 14))
      (tSeq (tIfS (tNot (tB (tCall (sp_law_right K CN CR) [] C8.E0 (tCons (tVar 12) (tCons (tVar 13) (tCons (tVar 14) (tCons (tC (.int 0)) tNil))))))) (tRet (tC (.bl false))) tNext)
      (tSeq (tIfS (tNot (tB (tCall (sp_law_right K CN CR) [] C8.E0 (tCons (tVar 13) (tCons (tVar 12) (tCons (tCall (sp_law_due K) [] C8.E0 (tCons (tVar 11) (tCons (tVar 7) (tCons (tVar 10) (tCons (tVar 4) tNil))))) (tCons (tC (.int 1)) tNil))))))) (tRet (tC (.bl false))) tNext)
      (tSeq (tIfS (tNot (tB (tCall (sp_law_right K CN CR) [] C8.E0 (tCons (tVar 12) (tCons (tVar 12) (tCons (tTup (tCons (tCB (rTupOf K) (tCons (tLc (iList K (tVar 10)) (gName 15) tYes (tTup (tCons (tVar 15) (tCons (tVar 15) tNil))) [15]) tNil)) (tCons (tTup tNil) tNil))) (tCons (tC (.int 0)) tNil))))))) (tRet (tC (.bl false))) tNext)
      (tSeq (tIfS (tAnd (tTest (tOp rLtI (tVar 2) (tC (.int 5)))) (tNot (tB (tCall (sp_law_right K CN CR) [] C8.E0 (tCons (tVar 12) (tCons (tVar 13) (tCons (tVar 14) (tCons (tC (.int 0)) tNil)))))))) (tRet (tC (.bl false))) tNext)
      (tRet (tAndV (tCall (sp_law_is_net K CN) [] C8.E0 (tCons (tVar 12) (tCons (tVar 10) (tCons (tVar 4) tNil)))) (tCall (sp_law_is_net K CN) [] C8.E0 (tCons (tVar 13) (tCons (tVar 11) (tCons (tVar 7) tNil)))))))))))))))))))))))))),
      (pss_cons (ps_set (i := 1) nd rfl (by first | exact Or.inl rfl | exact Or.inr rfl) (C8.pe_c c_law_digits hr (by decide) rfl (pa_cons (C8.pe_c c_law_cell hr (by decide) rfl (pa_cons (pv 0) (pa_cons pe_int pa_nil))) (pa_cons (pe_lst (pa_cons pe_int (pa_cons pe_int (pa_cons pe_int (pa_cons pe_int (pa_cons pe_int (pa_cons pe_int (pa_cons pe_int (pa_cons pe_int (pa_cons pe_int (pa_cons pe_int (pa_cons pe_int pa_nil)))))))))))) pa_nil))))
      (pss_cons (ps_set (i := 2) nd rfl (by first | exact Or.inl rfl | exact Or.inr rfl) (pe_ix ix_list (pe_lst (pa_cons pe_int (pa_cons pe_int (pa_cons pe_int (pa_cons pe_int (pa_cons pe_int (pa_cons pe_int (pa_cons pe_int (pa_cons pe_int (pa_cons pe_int (pa_cons pe_int (pa_cons pe_int (pa_cons pe_int (pa_cons pe_int (pa_cons pe_int (pa_cons pe_int (pa_cons pe_int (pa_cons pe_int (pa_cons pe_int (pa_cons pe_int (pa_cons pe_int (pa_cons pe_int (pa_cons pe_int (pa_cons pe_int (pa_cons pe_int (pa_cons pe_int (pa_cons pe_int (pa_cons pe_int (pa_cons pe_int (pa_cons pe_int (pa_cons pe_int (pa_cons pe_int (pa_cons pe_int pa_nil))))))))))))))))))))))))))))))))) (pe_ix ix_list (pv 1) pe_int (fun _ _ => rfl)) (fun _ _ => rfl)))
      (pss_cons (ps_set (i := 3) nd rfl (by first | exact Or.inl rfl | exact Or.inr rfl) (pe_op op_cat (pe_op op_cat (pe_lst (pa_cons pe_int pa_nil)) (pe_op op_rep (pe_lst (pa_cons pe_int pa_nil)) pe_int)) (pe_op op_rep (pe_lst (pa_cons pe_int pa_nil)) pe_int)))
      (pss_cons (ps_set (i := 4) nd rfl (by first | exact Or.inl rfl | exact Or.inr rfl) (C8.pe_c c_law_masks hr (by decide) rfl (pa_cons (C8.pe_c c_law_digits hr (by decide) rfl (pa_cons (C8.pe_c c_law_cell hr (by decide) rfl (pa_cons (pv 0) (pa_cons pe_int pa_nil))) (pa_cons (pv 3) pa_nil))) (pa_cons (pv 2) pa_nil))))
      (pss_cons (ps_set (i := 5) nd rfl (by first | exact Or.inl rfl | exact Or.inr rfl) (pv 2))
      (pss_cons (ps_if (pt_cmpR op_eq (pe_ix ix_list (pv 1) pe_int (fun _ _ => rfl)) pe_int (nomark _)) (pss_one (ps_set (i := 5) nd rfl (by first | exact Or.inl rfl | exact Or.inr rfl) (pe_ix ix_list (pe_lst (pa_cons pe_int (pa_cons pe_int (pa_cons pe_int (pa_cons pe_int (pa_cons pe_int (pa_cons pe_int pa_nil))))))) (pv 2) (fun _ _ => rfl)))) pss_nil)
      (pss_cons (ps_set (i := 6) nd rfl (by first | exact Or.inl rfl | exact Or.inr rfl) (C8.pe_c c_law_masks hr (by decide) rfl (pa_cons (C8.pe_c c_law_digits hr (by decide) rfl (pa_cons (C8.pe_c c_law_cell hr (by decide) rfl (pa_cons (pv 0) (pa_cons pe_int pa_nil))) (pa_cons (pv 3) pa_nil))) (pa_cons (pv 5) pa_nil))))
      (pss_cons (ps_set (i := 7) nd rfl (by first | exact Or.inl rfl | exact Or.inr rfl) (pv 6))
      (pss_cons (ps_if (pt_cmpR op_eq (pv 5) (pv 2) (nomark _)) (pss_one (ps_set (i := 7) nd rfl (by first | exact Or.inl rfl | exact Or.inr rfl) (C8.pe_c c_law_second hr (by decide) rfl (pa_cons (pv 4) (pa_cons (pe_slice sl_list (pv 1) (po_some pe_int) po_none) (pa_cons (pv 6) pa_nil)))))) pss_nil)
      (pss_cons (ps_set (i := 8) nd rfl (by first | exact Or.inl rfl | exact Or.inr rfl) (C8.pe_c c_law_digits hr (by decide) rfl (pa_cons (C8.pe_c c_law_cell hr (by decide) rfl (pa_cons (pv 0) (pa_cons pe_int pa_nil))) (pa_cons (pe_op op_rep (pe_lst (pa_cons (pe_op op_mul pe_int (pe_op op_pow pe_int pe_int)) pa_nil)) pe_int) pa_nil))))
      (pss_cons (ps_set (i := 9) nd rfl (by first | exact Or.inl rfl | exact Or.inr rfl) (C8.pe_c c_law_digits hr (by decide) rfl (pa_cons (C8.pe_c c_law_cell hr (by decide) rfl (pa_cons (pv 0) (pa_cons pe_int pa_nil))) (pa_cons (pe_op op_rep (pe_lst (pa_cons (pe_op op_mul pe_int (pe_op op_pow pe_int pe_int)) pa_nil)) pe_int) pa_nil))))
      (pss_cons (ps_set (i := 10) nd rfl (by first | exact Or.inl rfl | exact Or.inr rfl) (C8.pe_c c_law_names hr (by decide) rfl (pa_cons (pv 8) (pa_cons (pv 2) pa_nil))))
      (pss_cons (ps_set (i := 11) nd rfl (by first | exact Or.inl rfl | exact Or.inr rfl) (C8.pe_c c_law_names hr (by decide) rfl (pa_cons (pe_ix ix_list (pe_lst (pa_cons (pv 8) (pa_cons (pe_op op_cat (pe_slice sl_list (pv 8) po_none (po_some pe_int)) (pe_slice sl_list (pv 9) (po_some pe_int) po_none)) (pa_cons (pv 9) pa_nil)))) (pe_ix ix_list (pv 1) pe_int (fun _ _ => rfl)) (fun _ _ => rfl)) (pa_cons (pv 5) pa_nil))))
      (pss_cons (ps_set (i := 12) nd rfl (by first | exact Or.inl rfl | exact Or.inr rfl) (C8.pe_c c_law_net hr (by decide) rfl (pa_cons (pv 10) (pa_cons (pv 4) (pa_cons (C8.pe_c c_law_digits hr (by decide) rfl (pa_cons (C8.pe_c c_law_cell hr (by decide) rfl (pa_cons (pv 0) (pa_cons pe_int pa_nil))) (pa_cons (pe_op op_cat (pe_lst (pa_cons pe_int pa_nil)) (pe_op op_rep (pe_lst (pa_cons pe_int pa_nil)) pe_int)) pa_nil))) pa_nil)))))
      (pss_cons (ps_set (i := 13) nd rfl (by first | exact Or.inl rfl | exact Or.inr rfl) (C8.pe_c c_law_net hr (by decide) rfl (pa_cons (pv 11) (pa_cons (pv 7) (pa_cons (C8.pe_c c_law_digits hr (by decide) rfl (pa_cons (C8.pe_c c_law_cell hr (by decide) rfl (pa_cons (pv 0) (pa_cons pe_int pa_nil))) (pa_cons (pe_op op_cat (pe_lst (pa_cons pe_int pa_nil)) (pe_op op_rep (pe_lst (pa_cons pe_int pa_nil)) pe_int)) pa_nil))) pa_nil)))))
      (pss_cons (ps_set (i := 14) nd rfl (by first | exact Or.inl rfl | exact Or.inr rfl) (C8.pe_c c_law_due hr (by decide) rfl (pa_cons (pv 10) (pa_cons (pv 4) (pa_cons (pv 11) (pa_cons (pv 7) pa_nil))))))
      (pss_cons (ps_if (pt_not (pt_val (C8.pe_c c_law_right hr (by decide) rfl (pa_cons (pv 12) (pa_cons (pv 13) (pa_cons (pv 14) (pa_cons pe_int pa_nil))))))) (pss_one (ps_ret pe_bl)) pss_nil)
      (pss_cons (ps_if (pt_not (pt_val (C8.pe_c c_law_right hr (by decide) rfl (pa_cons (pv 13) (pa_cons (pv 12) (pa_cons (C8.pe_c c_law_due hr (by decide) rfl (pa_cons (pv 11) (pa_cons (pv 7) (pa_cons (pv 10) (pa_cons (pv 4) pa_nil))))) (pa_cons pe_int pa_nil))))))) (pss_one (ps_ret pe_bl)) pss_nil)
      (pss_cons (ps_if (pt_not (pt_val (C8.pe_c c_law_right hr (by decide) rfl (pa_cons (pv 12) (pa_cons (pv 12) (pa_cons (pe_tup (pa_cons (pe_callTy call_tuple_of (by rfl) B.tuple (by decide +kernel) (pa_cons (pe_lc (own := [("_law_name", 15)]) (g := (gName 15)) (tt := tYes) (te := (tTup (tCons (tVar 15) (tCons (tVar 15) tNil)))) rfl nd (pi_list (pv 10)) (blkOk_by (N := ["_law_script", "_law_row", "_law_size", "_law_sizes", "_law_masks_here", "_law_many", "_law_drawn", "_law_second_here", "_law_called", "_law_fresh", "_law_names_here", "_law_others", "_law_net_here", "_law_other", "_law_due_here", "_law_name"]) (sc := C8.fnScope s_law) (own := [("_law_name", 15)]) (by decide +kernel)) (fun _ _ _ _ _ => (pg_name (i := 15) nd rfl (by first | exact Or.inl rfl | exact Or.inr rfl))) (fun _ _ _ _ _ => pts_nil) (fun _ _ _ _ _ => (pe_tup (pa_cons (pv 15) (pa_cons (pv 15) pa_nil))))) pa_nil)) (pa_cons (pe_tup pa_nil) pa_nil))) (pa_cons pe_int pa_nil))))))) (pss_one (ps_ret pe_bl)) pss_nil)
      (pss_cons (ps_if (PW.pt (pw_and (pt_cmpR op_lt (pv 2) pe_int (nomark _)) (pw_and1 (pt_not (pt_val (C8.pe_c c_law_right hr (by decide) rfl (pa_cons (pv 12) (pa_cons (pv 13) (pa_cons (pv 14) (pa_cons pe_int pa_nil)))))))))) (pss_one (ps_ret pe_bl)) pss_nil)
      (pss_one (ps_ret (pe_and (C8.pe_c c_law_is_net hr (by decide) rfl (pa_cons (pv 12) (pa_cons (pv 10) (pa_cons (pv 4) pa_nil)))) (pe_one (C8.pe_c c_law_is_net hr (by decide) rfl (pa_cons (pv 13) (pa_cons (pv 11) (pa_cons (pv 7) pa_nil)))))))))))))))))))))))))))), ?_⟩
  change tSeq _ _ _ [some (V.ref p), none, none, none, none, none, none, none, none, none, none, none, none, none, none, none] H
  -- behind the second core
  have tail9 : ∀ (H1 : Hp) (ra sa ma da ea : Addr) (row : List Nat) (n m : Nat) (c d : Core) , Same H H1 → H1 ra = some (.lst (row.map nV)) → row.length = 11 → g row 10 < 3 → H1 ma = some (.lst (c.map nV)) → Good n c → H1 ea = some (.lst (d.map nV)) → Good m d → n ≤ 5 → m ≤ 5 →
      (tSeq (tAsg (tCall (sp_law_digits K) [] C8.E0 (tCons (tCall (sp_law_cell K) [] C8.E0 (tCons (tVar 0) (tCons (tC (.int 3)) tNil))) (tCons (tOp rRep (tLst (tCons (tOp rMulI (tC (.int 624)) (tOp rPowI (tC (.int 36)) (tC (.int 7)))) tNil)) (tC (.int 5))) tNil))) (gName 8))
      (tSeq (tAsg (tCall (sp_law_digits K) [] C8.E0 (tCons (tCall (sp_law_cell K) [] C8.E0 (tCons (tVar 0) (tCons (tC (.int 4)) tNil))) (tCons (tOp rRep (tLst (tCons (tOp rMulI (tC (.int 624)) (tOp rPowI (tC (.int 36)) (tC (.int 7)))) tNil)) (tC (.int 5))) tNil))) (gName 9))
      (tSeq (tAsg (tCall (sp_law_names K) [] C8.E0 (tCons (tVar 8) (tCons (tVar 2) tNil))) (gName 10))
      (tSeq (tAsg (tCall (sp_law_names K) [] C8.E0 (tCons (tOp (rIxL K) (tLst (tCons (tVar 8) (tCons (tOp rCat (tSl (rSlL K) (tVar 8) tNoPart (tPart (tC (.int 2)))) (tSl (rSlL K) (tVar 9) (tPart (tC (.int 2))) tNoPart)) (tCons (tVar 9) tNil)))) (tOp (rIxL K) (tVar 1) (tC (.int 10)))) (tCons (tVar 5) tNil))) (gName 11))
      (tSeq (tAsg (tCall (sp_law_net K CN) [] C8.E0 (tCons (tVar 10) (tCons (tVar 4) (tCons (tCall (sp_law_digits K) [] C8.E0 (tCons (tCall (sp_law_cell K) [] C8.E0 (tCons (tVar 0) (tCons (tC (.int 5)) tNil))) (tCons (tOp rCat (tLst (tCons (tC (.int 10)) tNil)) (tOp rRep (tLst (tCons (tC (.int 6)) tNil)) (tC (.int 15)))) tNil))) tNil)))) (gName 12))
      (tSeq (tAsg (tCall (sp_law_net K CN) [] C8.E0 (tCons (tVar 11) (tCons (tVar 7) (tCons (tCall (sp_law_digits K) [] C8.E0 (tCons (tCall (sp_law_cell K) [] C8.E0 (tCons (tVar 0) (tCons (tC (.int 6)) tNil))) (tCons (tOp rCat (tLst (tCons (tC (.int 10)) tNil)) (tOp rRep (tLst (tCons (tC (.int 6)) tNil)) (tC (.int 15)))) tNil))) tNil)))) (gName 13))
      (tSeq (tAsg (tCall (sp_law_due K) [] C8.E0 (tCons (tVar 10) (tCons (tVar 4) (tCons (tVar 11) (tCons (tVar 7) tNil))))) (gName 14))
      (tSeq (tIfS (tNot (tB (tCall (sp_law_right K CN CR) [] C8.E0 (tCons (tVar 12) (tCons (tVar 13) (tCons (tVar 14) (tCons (tC (.int 0)) tNil))))))) (tRet (tC (.bl false))) tNext)
      (tSeq (tIfS (tNot (tB (tCall (sp_law_right K CN CR) [] C8.E0 (tCons (tVar 13) (tCons (tVar 12) (tCons (tCall (sp_law_due K) [] C8.E0 (tCons (tVar 11) (tCons (tVar 7) (tCons (tVar 10) (tCons (tVar 4) tNil))))) (tCons (tC (.int 1)) tNil))))))) (tRet (tC (.bl false))) tNext)
      (tSeq (tIfS (tNot (tB (tCall (sp_law_right K CN CR) [] C8.E0 (tCons (tVar 12) (tCons (tVar 12) (tCons (tTup (tCons (tCB (rTupOf K) (tCons (tLc (iList K (tVar 10)) (gName 15) tYes (tTup (tCons (tVar 15) (tCons (tVar 15) tNil))) [15]) tNil)) (tCons (tTup tNil) tNil))) (tCons (tC (.int 0)) tNil))))))) (tRet (tC (.bl false))) tNext)
      (tSeq (tIfS (tAnd (tTest (tOp rLtI (tVar 2) (tC (.int 5)))) (tNot (tB (tCall (sp_law_right K CN CR) [] C8.E0 (tCons (tVar 12) (tCons (tVar 13) (tCons (tVar 14) (tCons (tC (.int 0)) tNil)))))))) (tRet (tC (.bl false))) tNext)
      (tRet (tAndV (tCall (sp_law_is_net K CN) [] C8.E0 (tCons (tVar 12) (tCons (tVar 10) (tCons (tVar 4) tNil)))) (tCall (sp_law_is_net K CN) [] C8.E0 (tCons (tVar 13) (tCons (tVar 11) (tCons (tVar 7) tNil))))))))))))))))) { nx := fun _ H' => Q .non H', rt := Q } [some (V.ref p), some (V.ref ra), some (nV n), some (V.ref sa), some (V.ref ma), some (nV m), some (V.ref da), some (V.ref ea), none, none, none, none, none, none, none, none] H1 := by
    intro H1 ra sa ma da ea row n m c d s1 hra hrow hr10 hma hgc hea hgd hn hm
    walk_at "go"
    refine ⟨p, zs, 3, rfl, (sqL_s s1 hp), by decide, fun z => ?_⟩
    walk_at "go"
    refine ⟨36, 7, rfl, rfl, ⟨by decide, by decide, by decide⟩, ?_⟩
    refine r_mulL (by decide) (by decide) ?_
    walk_at "go"
    refine ⟨by show 1 ≤ sizeLine; decide, fun t1 nt1 => ?_⟩
    obtain ⟨s2, et1⟩ := layL nt1 [V.int (624 * 36 ^ 7)]
    walk_at "go"
    refine r_rep 5 rfl et1 (by decide) (by show 1 ≤ 1000; decide) fun t2 nt2 => ?_
    obtain ⟨s3, et2⟩ := layL nt2 (List.replicate 5 [V.int (624 * 36 ^ 7)]).flatten
    have et2 := et2.trans (show _ = some (HO.lst (NS5.map nV)) from rfl)
    walk_at "go"
    refine ⟨z, t2, NS5, rfl, et2, by decide, by decide, fun v H2 s4 hv => ?_⟩
    obtain ⟨called, ⟨ca, rfl, hca⟩, hcl, _⟩ := hv
    have sA := s2.trans (s3.trans s4)
    have sA1 := s1.trans sA
    walk_at "go"
    refine ⟨p, zs, 4, rfl, (sqL_s sA1 hp), by decide, fun z => ?_⟩
    walk_at "go"
    refine ⟨36, 7, rfl, rfl, ⟨by decide, by decide, by decide⟩, ?_⟩
    refine r_mulL (by decide) (by decide) ?_
    walk_at "go"
    refine ⟨by show 1 ≤ sizeLine; decide, fun t3 nt3 => ?_⟩
    obtain ⟨s5, et3⟩ := layL nt3 [V.int (624 * 36 ^ 7)]
    walk_at "go"
    refine r_rep 5 rfl et3 (by decide) (by show 1 ≤ 1000; decide) fun t4 nt4 => ?_
    obtain ⟨s6, et4⟩ := layL nt4 (List.replicate 5 [V.int (624 * 36 ^ 7)]).flatten
    have et4 := et4.trans (show _ = some (HO.lst (NS5.map nV)) from rfl)
    walk_at "go"
    refine ⟨z, t4, NS5, rfl, et4, by decide, by decide, fun v H3 s7 hv => ?_⟩
    obtain ⟨fresh, ⟨fa, rfl, hfa⟩, hfl, _⟩ := hv
    have sB := s5.trans (s6.trans s7)
    have sAB := sA.trans sB
    walk_at "go"
    refine ⟨ca, called, n, rfl, sB _ _ hca, hcl, hn, fun v H4 s8 hv => ?_⟩
    obtain ⟨ss, ⟨na, rfl, hna⟩, pn⟩ := hv
    have sC := sB.trans s8
    walk_at "go"
    refine ⟨_, rfl, ?_⟩
    refine sl_L (sC _ _ hca) fun u1 nu1 => ?_
    obtain ⟨s9, eu1⟩ := layL nu1 (cutV (called.map nV) none (some 2))
    have eu1 := eu1.trans (by rw [show (some (2 : Int)) = some ((2 : Nat) : Int) from rfl, cut_hi, ← List.map_take])
    walk_at "go"
    refine ⟨_, rfl, ?_⟩
    walk_at "go"
    refine sl_L (s9 _ _ (s8 _ _ hfa)) fun u2 nu2 => ?_
    obtain ⟨s10, eu2⟩ := layL nu2 (cutV (fresh.map nV) (some 2) none)
    have eu2 := eu2.trans (by rw [show (some (2 : Int)) = some ((2 : Nat) : Int) from rfl, cut_lo, ← List.map_drop])
    refine ⟨u1, u2, _, _, rfl, rfl, s10 _ _ eu1, eu2, ?_, fun u3 nu3 => ?_⟩
    · rw [List.length_map, List.length_map, List.length_take, List.length_drop, hcl, hfl]
      show min 2 5 + (5 - 2) ≤ sizeLine
      decide
    rw [← List.map_append]
    obtain ⟨s11, eu3⟩ := layL nu3 ((called.take 2 ++ fresh.drop 2).map nV)
    walk_at "go"
    refine ⟨by show 3 ≤ sizeLine; decide, fun u4 nu4 => ?_⟩
    obtain ⟨s12, eu4⟩ := layL nu4 [V.ref ca, V.ref u3, V.ref fa]
    walk_at "go"
    have sD := s8.trans (s9.trans (s10.trans (s11.trans s12)))
    have sE := s9.trans (s10.trans (s11.trans s12))
    refine r_ixL0 10 rfl (sD _ _ ((sAB) _ _ hra)) (ns_at (by rw [hrow]; decide)) ?_
    have pick : ∃ (x : Addr) (rw5 : List Nat), ([V.ref ca, V.ref u3, V.ref fa] : List V)[g row 10]? = some (.ref x) ∧ rw5.length = 5 ∧ (upd (upd (upd (upd H4 u1 (.lst (cutV (called.map nV) none (some 2)))) u2 (.lst (cutV (fresh.map nV) (some 2) none))) u3 (.lst ((called.take 2 ++ fresh.drop 2).map nV))) u4 (.lst [V.ref ca, V.ref u3, V.ref fa])) x = some (.lst (rw5.map nV)) := by
      have h3 : g row 10 = 0 ∨ g row 10 = 1 ∨ g row 10 = 2 := by omega
      rcases h3 with e | e | e
      · exact ⟨ca, called, by rw [e]; rfl, hcl, sE _ _ (sC _ _ hca)⟩
      · refine ⟨u3, called.take 2 ++ fresh.drop 2, by rw [e]; rfl, ?_, s12 _ _ eu3⟩
        rw [List.length_append, List.length_take, List.length_drop, hcl, hfl]
        rfl
      · exact ⟨fa, fresh, by rw [e]; rfl, hfl, sE _ _ (s8 _ _ hfa)⟩
    obtain ⟨x5, rw5, hx5, hl5, he5⟩ := pick
    refine r_ixL eu4 hx5 ?_
    walk_at "go"
    refine ⟨x5, rw5, m, rfl, he5, hl5, hm, fun v H5 s13 hv => ?_⟩
    obtain ⟨tt, ⟨oa, rfl, hoa⟩, po⟩ := hv
    have sF := sE.trans s13
    have sG := sAB.trans (s8.trans sF)
    have N1 : NetP ss c := ⟨by rw [pn.len]; exact hgc, pn.srt, pn.nd, pn.val, by rw [pn.len]; exact hn⟩
    have N2 : NetP tt d := ⟨by rw [po.len]; exact hgd, po.srt, po.nd, po.val, by rw [po.len]; exact hm⟩
    have hna5 := sF _ _ hna
    have hma5 := sG _ _ hma
    have hea5 := sG _ _ hea
    have hp5 := sqL_s (s1.trans sG) hp
    have sH := s1.trans sG
    generalize upd (upd (upd (upd H4 u1 (.lst (cutV (called.map nV) none (some 2)))) u2 (.lst (cutV (fresh.map nV) (some 2) none))) u3 (.lst ((called.take 2 ++ fresh.drop 2).map nV))) u4 (.lst [V.ref ca, V.ref u3, V.ref fa]) = H45 at *
    -- the two nets
    walk_at "go"
    refine ⟨p, zs, 5, rfl, hp5, by decide, fun z => ?_⟩
    walk_at "go"
    refine ⟨by show 1 ≤ sizeLine; decide, fun w1 nw1 => ?_⟩
    obtain ⟨s14, ew1⟩ := layL nw1 [V.int 10]
    walk_at "go"
    refine ⟨by show 1 ≤ sizeLine; decide, fun w2 nw2 => ?_⟩
    obtain ⟨s15, ew2⟩ := layL nw2 [V.int 6]
    walk_at "go"
    refine r_rep 15 rfl ew2 (by decide) (by show 1 ≤ 1000; decide) fun w3 nw3 => ?_
    obtain ⟨s16, ew3⟩ := layL nw3 (List.replicate 15 [V.int 6]).flatten
    refine ⟨w1, w3, _, _, rfl, rfl, s16 _ _ (s15 _ _ ew1), ew3, by show 16 ≤ sizeLine; decide, fun w4 nw4 => ?_⟩
    obtain ⟨s17, ew4⟩ := layL nw4 ([V.int 10] ++ (List.replicate 15 [V.int 6]).flatten)
    have ew4 := ew4.trans (show _ = some (HO.lst (TS.map nV)) from rfl)
    walk_at "go"
    refine ⟨z, w4, TS, rfl, ew4, by decide, by decide, fun v H6 s18 hv => ?_⟩
    obtain ⟨tr, ⟨tra, rfl, htra⟩, htl, _⟩ := hv
    have sI := s14.trans (s15.trans (s16.trans (s17.trans s18)))
    walk_at "go"
    refine ⟨na, ma, tra, ss, c, tr, rfl, sI _ _ hna5, sI _ _ hma5, htra, N1, by rw [htl]; decide, fun v H7 s19 hv => ?_⟩
    obtain ⟨x1, rfl, nx1⟩ := hv
    have sJ := sI.trans s19
    walk_at "go"
    refine ⟨p, zs, 6, rfl, (sqL_s sJ hp5), by decide, fun z => ?_⟩
    walk_at "go"
    refine ⟨by show 1 ≤ sizeLine; decide, fun y1 ny1 => ?_⟩
    obtain ⟨s20, ey1⟩ := layL ny1 [V.int 10]
    walk_at "go"
    refine ⟨by show 1 ≤ sizeLine; decide, fun y2 ny2 => ?_⟩
    obtain ⟨s21, ey2⟩ := layL ny2 [V.int 6]
    walk_at "go"
    refine r_rep 15 rfl ey2 (by decide) (by show 1 ≤ 1000; decide) fun y3 ny3 => ?_
    obtain ⟨s22, ey3⟩ := layL ny3 (List.replicate 15 [V.int 6]).flatten
    refine ⟨y1, y3, _, _, rfl, rfl, s22 _ _ (s21 _ _ ey1), ey3, by show 16 ≤ sizeLine; decide, fun y4 ny4 => ?_⟩
    obtain ⟨s23, ey4⟩ := layL ny4 ([V.int 10] ++ (List.replicate 15 [V.int 6]).flatten)
    have ey4 := ey4.trans (show _ = some (HO.lst (TS.map nV)) from rfl)
    walk_at "go"
    refine ⟨z, y4, TS, rfl, ey4, by decide, by decide, fun v H8 s24 hv => ?_⟩
    obtain ⟨tr2, ⟨tra2, rfl, htra2⟩, htl2, _⟩ := hv
    have sK := s20.trans (s21.trans (s22.trans (s23.trans s24)))
    have sL := sJ.trans sK
    walk_at "go"
    refine ⟨oa, ea, tra2, tt, d, tr2, rfl, sL _ _ hoa, sL _ _ hea5, htra2, N2, by rw [htl2]; decide, fun v H9 s25 hv => ?_⟩
    obtain ⟨x2, rfl, nx2⟩ := hv
    have nx1 := nx1.s (sK.trans s25)
    have sM := sL.trans s25
    have hna9 := sM _ _ hna5
    have hma9 := sM _ _ hma5
    have hoa9 := sM _ _ hoa
    have hea9 := sM _ _ hea5
    have sN := sH.trans sM
    -- the answers
    walk_at "go"
    refine ⟨na, ma, oa, ea, ss, tt, c, d, rfl, hna9, hma9, hoa9, hea9, N1, N2, fun u1' HA sA' hdue => ?_⟩
    walk_at "go"
    refine ⟨x1, x2, u1', 0, ss, tt, c, d, rfl, nx1.s sA', nx2.s sA', N1, N2, hdue, fun v HB sB' hv => ?_⟩
    subst hv
    have sAB' := sA'.trans sB'
    walk_at "go"
    refine iteF ?_
    walk_at "go"
    refine ⟨oa, ea, na, ma, tt, ss, d, c, rfl, sAB' _ _ hoa9, sAB' _ _ hea9, sAB' _ _ hna9, sAB' _ _ hma9, N2, N1, fun u2' HC sC' hdue2 => ?_⟩
    have sAC' := sAB'.trans sC'
    walk_at "go"
    refine ⟨x2, x1, u2', 1, tt, ss, d, c, rfl, nx2.s sAC', nx1.s sAC', N2, N1, hdue2, fun v HD sD' hv => ?_⟩
    subst hv
    have sAD' := sAC'.trans sD'
    walk_at "go"
    refine iteF ?_
    walk_at "go"
    refine c_l (xs := ss.map V.str) (fun i acc H' => Paired (PS2 H') acc ((ss.map fun s => (s, s)).take i)) (fun _ _ _ _ e r => ps2_t e r) (sAD' _ _ hna9) .nil (fun D acc i y H' hD hy hi s e z r => ?_) (fun l HE acc nl sE' el _ ea' => ?_)
    · rw [List.length_map] at hi
      rw [sg_at hi] at hy
      cases hy
      have hi5 : i < 5 := Nat.lt_of_lt_of_le hi N1.five
      refine ⟨rfl, ?_⟩
      walk_at "go"
      refine iteT ?_
      walk_at "go"
      refine ⟨by show 2 ≤ sizeLine; decide, fun q nq => ?_⟩
      obtain ⟨s6, eq⟩ := layT nq [V.str (sg ss i), V.str (sg ss i)]
      refine lc_yes (fun _ _ _ _ e r => ps2_t e r) hD (s.trans s6) (s6 _ _ e) z (by omega) ?_
      rw [List.take_add_one, List.getElem?_map, sg_get hi]
      exact Paired.snoc (ps2_t s6.tup r) ⟨q, rfl, eq⟩
    rw [List.length_map, List.take_of_length_le (by simp)] at ea'
    walk_at "go"
    refine r_tupOf el fun pp npp => ?_
    obtain ⟨sF', epp⟩ := layT npp acc
    walk_at "go"
    refine ⟨Nat.zero_le _, fun pr npr => ?_⟩
    obtain ⟨sG', epr⟩ := layT npr []
    walk_at "go"
    refine ⟨by show 2 ≤ sizeLine; decide, fun X nX => ?_⟩
    obtain ⟨sH', eX⟩ := layT nX [V.ref pp, V.ref pr]
    have sEH := sE'.trans (sF'.trans (sG'.trans sH'))
    have sAH := sAD'.trans sEH
    walk_at "go"
    refine ⟨x1, x1, .ref X, 0, ss, ss, c, c, rfl, nx1.s sAH, nx1.s sAH, N1, N1, ?_, fun v HI sI' hv => ?_⟩
    · rw [ren_self N1]
      exact ⟨X, pp, pr, acc, rfl, eX, sH' _ _ (sG' _ _ epp), ps2_t (sF'.trans (sG'.trans sH')).tup ea', sH' _ _ epr⟩
    subst hv
    have sAI := sAH.trans sI'
    walk_at "go"
    refine iteF ?_
    -- the last line, in any heap behind
    have last : ∀ HJ, Same H9 HJ → (tRet (tAndV (tCall (sp_law_is_net K CN) [] C8.E0 (tCons (tVar 12) (tCons (tVar 10) (tCons (tVar 4) tNil)))) (tCall (sp_law_is_net K CN) [] C8.E0 (tCons (tVar 13) (tCons (tVar 11) (tCons (tVar 7) tNil)))))) { nx := fun _ H' => Q .non H', rt := Q } [some (V.ref p), some (V.ref ra), some (nV n), some (V.ref sa), some (V.ref ma), some (nV m), some (V.ref da), some (V.ref ea), some (V.ref ca), some (V.ref fa), some (V.ref na), some (V.ref oa), some (V.ref x1), some (V.ref x2), some u1', none] HJ := by
      intro HJ sJ'
      walk_at "go"
      refine r_andV ?_
      walk_at "go"
      refine ⟨x1, na, ma, ss, c, rfl, nx1.s sJ', sJ' _ _ hna9, sJ' _ _ hma9, N1, fun v HK sK' hv => ?_⟩
      subst hv
      refine ⟨true, rfl, ?_⟩
      refine iteT ?_
      have sJK := sJ'.trans sK'
      walk_at "go"
      refine ⟨x2, oa, ea, tt, d, rfl, nx2.s sJK, sJK _ _ hoa9, sJK _ _ hea9, N2, fun v HL sL' hv => ?_⟩
      exact k _ _ (sN.trans (sJK.trans sL')) hv
    walk_at "go"
    refine ite2 (fun _ => ?_) (fun _ => ?_)
    · walk_at "go"
      refine ⟨x1, x2, u1', 0, ss, tt, c, d, rfl, nx1.s sAI, nx2.s sAI, N1, N2, hdue.s (sB'.trans (sC'.trans (sD'.trans (sEH.trans sI')))), fun v HJ sJ' hv => ?_⟩
      subst hv
      walk_at "go"
      refine iteF ?_
      exact last HJ (sAI.trans sJ')
    · refine iteF ?_
      exact last HI sAI
  have tail6 : ∀ (H1 : Hp) (ra sa ma : Addr) (row : List Nat) (n m : Nat) (c : Core) , Same H H1 → H1 ra = some (.lst (row.map nV)) → row.length = 11 → g row 10 < 3 → H1 sa = some (.lst (MS.map nV)) → H1 ma = some (.lst (c.map nV)) → Good n c → n ≤ 5 → m ≤ 5 →
      (tSeq (tAsg (tCall (sp_law_masks K) [] C8.E0 (tCons (tCall (sp_law_digits K) [] C8.E0 (tCons (tCall (sp_law_cell K) [] C8.E0 (tCons (tVar 0) (tCons (tC (.int 2)) tNil))) (tCons (tVar 3) tNil))) (tCons (tVar 5) tNil))) (gName 6))
      (tSeq (tAsg (tVar 6) (gName 7))
      (tSeq (tIfS (tTest (tOp rEq (tVar 5) (tVar 2))) (tAsg (tCall (sp_law_second K) [] C8.E0 (tCons (tVar 4) (tCons (tSl (rSlL K) (tVar 1) (tPart (tC (.int 1))) tNoPart) (tCons (tVar 6) tNil)))) (gName 7)) tNext)
      (tSeq (tAsg (tCall (sp_law_digits K) [] C8.E0 (tCons (tCall (sp_law_cell K) [] C8.E0 (tCons (tVar 0) (tCons (tC (.int 3)) tNil))) (tCons (tOp rRep (tLst (tCons (tOp rMulI (tC (.int 624)) (tOp rPowI (tC (.int 36)) (tC (.int 7)))) tNil)) (tC (.int 5))) tNil))) (gName 8))
      (tSeq (tAsg (tCall (sp_law_digits K) [] C8.E0 (tCons (tCall (sp_law_cell K) [] C8.E0 (tCons (tVar 0) (tCons (tC (.int 4)) tNil))) (tCons (tOp rRep (tLst (tCons (tOp rMulI (tC (.int 624)) (tOp rPowI (tC (.int 36)) (tC (.int 7)))) tNil)) (tC (.int 5))) tNil))) (gName 9))
      (tSeq (tAsg (tCall (sp_law_names K) [] C8.E0 (tCons (tVar 8) (tCons (tVar 2) tNil))) (gName 10))
      (tSeq (tAsg (tCall (sp_law_names K) [] C8.E0 (tCons (tOp (rIxL K) (tLst (tCons (tVar 8) (tCons (tOp rCat (tSl (rSlL K) (tVar 8) tNoPart (tPart (tC (.int 2)))) (tSl (rSlL K) (tVar 9) (tPart (tC (.int 2))) tNoPart)) (tCons (tVar 9) tNil)))) (tOp (rIxL K) (tVar 1) (tC (.int 10)))) (tCons (tVar 5) tNil))) (gName 11))
      (tSeq (tAsg (tCall (sp_law_net K CN) [] C8.E0 (tCons (tVar 10) (tCons (tVar 4) (tCons (tCall (sp_law_digits K) [] C8.E0 (tCons (tCall (sp_law_cell K) [] C8.E0 (tCons (tVar 0) (tCons (tC (.int 5)) tNil))) (tCons (tOp rCat (tLst (tCons (tC (.int 10)) tNil)) (tOp rRep (tLst (tCons (tC (.int 6)) tNil)) (tC (.int 15)))) tNil))) tNil)))) (gName 12))
      (tSeq (tAsg (tCall (sp_law_net K CN) [] C8.E0 (tCons (tVar 11) (tCons (tVar 7) (tCons (tCall (sp_law_digits K) [] C8.E0 (tCons (tCall (sp_law_cell K) [] C8.E0 (tCons (tVar 0) (tCons (tC (.int 6)) tNil))) (tCons (tOp rCat (tLst (tCons (tC (.int 10)) tNil)) (tOp rRep (tLst (tCons (tC (.int 6)) tNil)) (tC (.int 15)))) tNil))) tNil)))) (gName 13))
      (tSeq (tAsg (tCall (sp_law_due K) [] C8.E0 (tCons (tVar 10) (tCons (tVar 4) (tCons (tVar 11) (tCons (tVar 7) tNil))))) (gName 14))
      (tSeq (tIfS (tNot (tB (tCall (sp_law_right K CN CR) [] C8.E0 (tCons (tVar 12) (tCons (tVar 13) (tCons (tVar 14) (tCons (tC (.int 0)) tNil))))))) (tRet (tC (.bl false))) tNext)
      (tSeq (tIfS (tNot (tB (tCall (sp_law_right K CN CR) [] C8.E0 (tCons (tVar 13) (tCons (tVar 12) (tCons (tCall (sp_law_due K) [] C8.E0 (tCons (tVar 11) (tCons (tVar 7) (tCons (tVar 10) (tCons (tVar 4) tNil))))) (tCons (tC (.int 1)) tNil))))))) (tRet (tC (.bl false))) tNext)
      (tSeq (tIfS (tNot (tB (tCall (sp_law_right K CN CR) [] C8.E0 (tCons (tVar 12) (tCons (tVar 12) (tCons (tTup (tCons (tCB (rTupOf K) (tCons (tLc (iList K (tVar 10)) (gName 15) tYes (tTup (tCons (tVar 15) (tCons (tVar 15) tNil))) [15]) tNil)) (tCons (tTup tNil) tNil))) (tCons (tC (.int 0)) tNil))))))) (tRet (tC (.bl false))) tNext)
      (tSeq (tIfS (tAnd (tTest (tOp rLtI (tVar 2) (tC (.int 5)))) (tNot (tB (tCall (sp_law_right K CN CR) [] C8.E0 (tCons (tVar 12) (tCons (tVar 13) (tCons (tVar 14) (tCons (tC (.int 0)) tNil)))))))) (tRet (tC (.bl false))) tNext)
      (tRet (tAndV (tCall (sp_law_is_net K CN) [] C8.E0 (tCons (tVar 12) (tCons (tVar 10) (tCons (tVar 4) tNil)))) (tCall (sp_law_is_net K CN) [] C8.E0 (tCons (tVar 13) (tCons (tVar 11) (tCons (tVar 7) tNil)))))))))))))))))))) { nx := fun _ H' => Q .non H', rt := Q } [some (V.ref p), some (V.ref ra), some (nV n), some (V.ref sa), some (V.ref ma), some (nV m), none, none, none, none, none, none, none, none, none, none] H1 := by
    intro H1 ra sa ma row n m c s1 hra hrow hr10 hsa hma hgc hn hm
    walk_at "go"
    refine ⟨p, zs, 2, rfl, (sqL_s s1 hp), by decide, fun z => ?_⟩
    walk_at "go"
    refine ⟨z, sa, MS, rfl, hsa, by decide, by decide, fun v H2 s2 hv => ?_⟩
    obtain ⟨ds, ⟨a2, rfl, ha2⟩, hdl, hdg⟩ := hv
    walk_at "go"
    refine ⟨a2, ds, m, rfl, ha2, hdl, hdg 0 (by decide), hm, fun v H3 s3 hv => ?_⟩
    obtain ⟨d, ⟨da, rfl, hda⟩, hgd⟩ := hv
    have s13 := s1.trans (s2.trans s3)
    have s23 := s2.trans s3
    walk_at "go"
    by_cases hmn : m = n
    · subst hmn
      rw [decide_eq_true rfl]
      refine iteT ?_
      walk_at "go"
      refine ⟨_, rfl, ?_⟩
      walk_at "go"
      refine sl_L (s23 _ _ hra) fun u nu => ?_
      obtain ⟨s4, eu⟩ := layL nu (cutV (row.map nV) (some 1) none)
      have eu2 := eu.trans (by rw [show (some (1 : Int)) = some ((1 : Nat) : Int) from rfl, cut_lo, ← List.map_drop])
      walk_at "go"
      refine ⟨ma, u, da, c, d, row.drop 1, m, rfl, s4 _ _ (s23 _ _ hma), eu2, s4 _ _ hda, hgc, hgd, hn, by rw [List.length_drop, hrow], fun v H4 s5 hv => ?_⟩
      obtain ⟨e, ⟨ea, rfl, hea⟩, hge⟩ := hv
      have s45 := s4.trans s5
      exact tail9 H4 ra sa ma da ea row m m c e (s13.trans s45) (s45 _ _ (s23 _ _ hra)) hrow hr10 (s45 _ _ (s23 _ _ hma)) hgc hea hge hn hm
    · rw [decide_eq_false (fun e => hmn (by have := V.int.inj e; omega))]
      refine iteF ?_
      exact tail9 H3 ra sa ma da da row n m c d s13 (s23 _ _ hra) hrow hr10 (s23 _ _ hma) hgc hda hgd hn hm
  walk_at "go"
  refine ⟨p, zs, 0, rfl, hp, by decide, fun z => ?_⟩
  walk_at "go"
  refine ⟨by show 11 ≤ sizeLine; decide, fun u nu => ?_⟩
  obtain ⟨s1, eu⟩ := layL nu (R0.map nV)
  walk_at "go"
  refine ⟨z, u, R0, rfl, eu, by decide, by decide, fun v H2 s2 hv => ?_⟩
  obtain ⟨row, ⟨ra, rfl, hra⟩, hrow, hrg⟩ := hv
  have s12 := s1.trans s2
  have hr0 : g row 0 < 32 := hrg 0 (by decide)
  have hr10 : g row 10 < 3 := hrg 10 (by decide)
  walk_at "go"
  refine ⟨by show 32 ≤ sizeLine; decide, fun u2 nu2 => ?_⟩
  obtain ⟨s3, eu2⟩ := layL nu2 (SZ.map nV)
  walk_at "go"
  refine r_ixL0 0 rfl (s3 _ _ hra) (ns_at (by rw [hrow]; decide)) ?_
  refine r_ixL eu2 (ns_at (show g row 0 < SZ.length from hr0)) ?_
  have hn : g SZ (g row 0) ≤ 5 := (show ∀ i, i < 32 → g SZ i ≤ 5 by decide) _ hr0
  generalize g SZ (g row 0) = n at *
  walk_at "go"
  refine ⟨by show 1 ≤ sizeLine; decide, fun t1 nt1 => ?_⟩
  obtain ⟨s4, et1⟩ := layL nt1 [V.int 12]
  walk_at "go"
  refine ⟨by show 1 ≤ sizeLine; decide, fun t2 nt2 => ?_⟩
  obtain ⟨s5, et2⟩ := layL nt2 [V.int 4]
  walk_at "go"
  refine r_rep 15 rfl et2 (by decide) (by show 1 ≤ 1000; decide) fun t3 nt3 => ?_
  obtain ⟨s6, et3⟩ := layL nt3 (List.replicate 15 [V.int 4]).flatten
  refine ⟨t1, t3, _, _, rfl, rfl, s6 _ _ (s5 _ _ et1), et3, by show 16 ≤ sizeLine; decide, fun t4 nt4 => ?_⟩
  obtain ⟨s7, et4⟩ := layL nt4 ([V.int 12] ++ (List.replicate 15 [V.int 4]).flatten)
  walk_at "go"
  refine ⟨by show 1 ≤ sizeLine; decide, fun t5 nt5 => ?_⟩
  obtain ⟨s8, et5⟩ := layL nt5 [V.int 60]
  walk_at "go"
  refine r_rep 5 rfl et5 (by decide) (by show 1 ≤ 1000; decide) fun t6 nt6 => ?_
  obtain ⟨s9, et6⟩ := layL nt6 (List.replicate 5 [V.int 60]).flatten
  refine ⟨t4, t6, _, _, rfl, rfl, s9 _ _ (s8 _ _ et4), et6, by show 21 ≤ sizeLine; decide, fun t7 nt7 => ?_⟩
  obtain ⟨s10, et7⟩ := layL nt7 ([V.int 12] ++ (List.replicate 15 [V.int 4]).flatten ++ (List.replicate 5 [V.int 60]).flatten)
  have et7 := et7.trans (show _ = some (HO.lst (MS.map nV)) from rfl)
  have s3t := s3.trans (s4.trans (s5.trans (s6.trans (s7.trans (s8.trans (s9.trans s10))))))
  have sA := s12.trans s3t
  walk_at "go"
  refine ⟨p, zs, 1, rfl, (sqL_s sA hp), by decide, fun z => ?_⟩
  walk_at "go"
  refine ⟨z, t7, MS, rfl, et7, by decide, by decide, fun v H3 s11 hv => ?_⟩
  obtain ⟨ds, ⟨a2, rfl, ha2⟩, hdl, hdg⟩ := hv
  walk_at "go"
  refine ⟨a2, ds, n, rfl, ha2, hdl, hdg 0 (by decide), hn, fun v H4 s12' hv => ?_⟩
  obtain ⟨c, ⟨ma, rfl, hma⟩, hgc⟩ := hv
  have sB := s11.trans s12'
  have sC := s3t.trans sB
  walk_at "go"
  refine r_ixL0 1 rfl (sC _ _ hra) (ns_at (by rw [hrow]; decide)) ?_
  walk_at "go"
  refine ite2 (fun _ => ?_) (fun _ => ?_)
  · walk_at "go"
    refine ⟨by show 6 ≤ sizeLine; decide, fun u3 nu3 => ?_⟩
    obtain ⟨s13, eu3⟩ := layL nu3 (MY.map nV)
    walk_at "go"
    refine r_ixL eu3 (ns_at (show n < MY.length from Nat.lt_of_le_of_lt hn (by decide))) ?_
    have hm : g MY n ≤ 5 := (show ∀ i, i < 6 → g MY i ≤ 5 by decide) _ (by omega)
    exact tail6 _ ra t7 ma row n (g MY n) c ((sA.trans sB).trans s13) (s13 _ _ (sC _ _ hra)) hrow hr10 (s13 _ _ (sB _ _ et7)) (s13 _ _ hma) hgc hn hm
  · refine r_next ?_
    exact tail6 _ ra t7 ma row n n c (sA.trans sB) (sC _ _ hra) hrow hr10 (sB _ _ et7) hma hgc hn hn
end
end K81
end

section
open PySem PySem.Spec PyProof.Rows L2
namespace K81
/-! ### what the top has left, and all promises -/
section
variable {P : Program} {w : World} {K : PySem.W.Frag} {mg : Str → Option Value} {base : Heap} {CN CR : Addr}
theorem fun_mk8 {x qual : Str} {st : Stmt} {f : Addr} {oc : Value} {od an : Option Addr} {sl : Array (Option Value)} {kV dc pm cd ct : Value} (l : K.lookup f = some ⟨oc, od, .func (PySem.W.fnOf x qual (C8.fnArgs st) (C8.fnBody st) (C8.fnScope st) .none kV dc pm an cd ct), sl⟩) (c : PySem.W.codeIn K cd qual = true) :
    C8.Fun K x qual st f (PySem.W.fnOf x qual (C8.fnArgs st) (C8.fnBody st) (C8.fnScope st) .none kV dc pm an cd ct) := ⟨oc, od, .none, kV, dc, pm, an, cd, ct, sl, rfl, l, c⟩
theorem db_mk {h : Heap} (X : K.In h) (G : h.Ns mainGlobals mg) {x : Str} {st : Stmt} {ps : List Str} {f : Addr} {oc : Value} {od an : Option Addr} {sl : Array (Option Value)} {kV dc pm cd ct : Value} (a : PySem.W.nsIn K mainGlobals x = some (some (.ref f)))
    (l : K.lookup f = some ⟨oc, od, .func (PySem.W.fnOf x x (C8.fnArgs st) (C8.fnBody st) (C8.fnScope st) .none kV dc pm an cd ct), sl⟩) (c : PySem.W.codeIn K cd x = true) (k : PySem.W.keepIn K (.ref f) = true)
    (hb : ∀ (kV doc pm : Value) (an : Option Addr) (cdv ct : Value) (us : List Value), us.length = ps.length → bindArgs (PySem.W.fnOf x x (C8.fnArgs st) (C8.fnBody st) (C8.fnScope st) .none kV doc pm an cdv ct) ⟨us, []⟩ = pure (ps.zip us)) : DB K mg x st ps :=
  ⟨f, _, ⟨fun_mk8 l c, PySem.W.mg_of X G a, k⟩, (fun_mk8 l c).binds rfl hb⟩
theorem dk_mk {h : Heap} (X : K.In h) (G : h.Ns mainGlobals mg) {x : Str} {st : Stmt} {p1 p2 : Str} {f : Addr} {oc : Value} {od an : Option Addr} {sl : Array (Option Value)} {kV dc pm cd ct : Value} (a : PySem.W.nsIn K mainGlobals x = some (some (.ref f)))
    (l : K.lookup f = some ⟨oc, od, .func (PySem.W.fnOf x x (C8.fnArgs st) (C8.fnBody st) (C8.fnScope st) .none kV dc pm an cd ct), sl⟩) (c : PySem.W.codeIn K cd x = true) (k : PySem.W.keepIn K (.ref f) = true)
    (hb : ∀ (kV doc pm : Value) (an : Option Addr) (cdv ct : Value) (us : List Value), us.length = [p1, p2].length → bindArgs (PySem.W.fnOf x x (C8.fnArgs st) (C8.fnBody st) (C8.fnScope st) .none kV doc pm an cdv ct) ⟨us, []⟩ = pure ([p1, p2].zip us))
    (hk : ∀ (kV doc pm : Value) (an : Option Addr) (cdv ct a b : Value), bindArgs (PySem.W.fnOf x x (C8.fnArgs st) (C8.fnBody st) (C8.fnScope st) .none kV doc pm an cdv ct) ⟨[], [(p2, a), (p1, b)]⟩ = pure [(p1, b), (p2, a)]) : DK K mg x st [p1, p2] [p2, p1] := by
  refine ⟨f, _, ⟨fun_mk8 l c, PySem.W.mg_of X G a, k⟩, (fun_mk8 l c).binds rfl hb, ⟨fun s us ws _ hl => ?_, fun {vs us zs ws} r1 r2 => ?_⟩⟩
  · match us, ws, hl with
    | [], [a, b], _ => exact .of_eq (hk kV dc pm an cd ct a b)
  · cases r1 with
    | nil =>
      cases r2 with
      | nil => exact .nil
      | cons a r2 =>
        cases r2 with
        | nil => exact .nil
        | cons b r2 =>
          cases r2 with
          | nil => exact .cons b (.cons a .nil)
          | cons c r2 => exact .nil
    | cons a r1 => exact .nil
theorem di_mk {h : Heap} (X : K.In h) (G : h.Ns mainGlobals mg) {x qual : Str} {C : Addr} {st : Stmt} {ps : List Str} {f : Addr} {oc : Value} {od an : Option Addr} {sl : Array (Option Value)} {kV dc pm cd ct : Value} (a : PySem.W.nsIn K mainGlobals x = some (some (.ref C)))
    (i : PySem.W.findIn K (.ref C) "__init__" = some (some (.ref f))) (t : PySem.W.isFn K (.ref f) = true) (mk : PySem.W.makesIn K C = true) (kc : PySem.W.keepIn K (.ref C) = true)
    (l : K.lookup f = some ⟨oc, od, .func (PySem.W.fnOf "__init__" qual (C8.fnArgs st) (C8.fnBody st) (C8.fnScope st) .none kV dc pm an cd ct), sl⟩) (c : PySem.W.codeIn K cd qual = true)
    (hb : ∀ (kV doc pm : Value) (an : Option Addr) (cdv ct : Value) (us : List Value), us.length = ps.length → bindArgs (PySem.W.fnOf "__init__" qual (C8.fnArgs st) (C8.fnBody st) (C8.fnScope st) .none kV doc pm an cdv ct) ⟨us, []⟩ = pure (ps.zip us)) : DI K mg x C qual st ps :=
  ⟨f, _, ⟨mk, i, t, kc⟩, PySem.W.mg_of X G a, fun_mk8 l c, (fun_mk8 l c).binds rfl hb⟩
theorem dl_mk {C : Addr} {f : Addr} {oc : Value} {od an : Option Addr} {sl : Array (Option Value)} {kV dc pm cd ct : Value}
    (i : PySem.W.findIn K (.ref C) "__len__" = some (some (.ref f))) (t : PySem.W.isFn K (.ref f) = true) (kf : PySem.W.keepIn K (.ref f) = true)
    (l : K.lookup f = some ⟨oc, od, .func (PySem.W.fnOf "__len__" "Net.__len__" (C8.fnArgs s_net_len) (C8.fnBody s_net_len) (C8.fnScope s_net_len) .none kV dc pm an cd ct), sl⟩) (c : PySem.W.codeIn K cd "Net.__len__" = true) :
    ∃ f fd, Meth K C "__len__" f ∧ C8.Fun K "__len__" "Net.__len__" s_net_len f fd ∧ Binds K fd ["self"] [] :=
  ⟨f, _, ⟨i, t, kf⟩, fun_mk8 l c, (fun_mk8 l c).binds rfl fun _ _ _ _ _ _ us hl => match us, hl with | [_], _ => rfl⟩
theorem glob_mk {h : Heap} (X : K.In h) (G : h.Ns mainGlobals mg) {z1 z2 : Str} {t1 t2 t3 : Tok} {i3 : Int} (a1 : PySem.W.nsIn K mainGlobals "LETTERS" = some (some (.str z1 t1))) (a2 : PySem.W.nsIn K mainGlobals "DIGITS" = some (some (.str z2 t2))) (a3 : PySem.W.nsIn K mainGlobals "LONGEST" = some (some (.int i3 t3)))
    (a4 : PySem.W.nsIn K mainGlobals "Net" = some (some (.ref CN))) (a5 : PySem.W.nsIn K mainGlobals "Renaming" = some (some (.ref CR))) (e1 : z1 = sLETTERS) (e2 : z2 = sDIGITS) (e3 : i3 = 8) : Glob mg CN CR := by
  subst e1 e2 e3
  exact ⟨⟨_, PySem.W.mg_of X G a1, _, rfl⟩, ⟨_, PySem.W.mg_of X G a2, _, rfl⟩, ⟨_, PySem.W.mg_of X G a3, _, rfl⟩, ⟨_, PySem.W.mg_of X G a4, rfl⟩, ⟨_, PySem.W.mg_of X G a5, rfl⟩⟩
theorem bi_mk {h : Heap} (X : K.In h) (G : h.Ns mainGlobals mg) (a1 : PySem.W.nsIn K mainGlobals "len" = some none) (a2 : PySem.W.nsIn K mainGlobals "range" = some none) (a3 : PySem.W.nsIn K mainGlobals "tuple" = some none) (a4 : PySem.W.nsIn K mainGlobals "list" = some none) (a5 : PySem.W.nsIn K mainGlobals "sorted" = some none)
    (a6 : PySem.W.nsIn K mainGlobals "enumerate" = some none) (a7 : PySem.W.nsIn K mainGlobals "int" = some none) (a8 : PySem.W.nsIn K mainGlobals "sum" = some none) (a9 : PySem.W.nsIn K mainGlobals "isinstance" = some none) (a10 : PySem.W.nsIn K mainGlobals "str" = some none) : Bi mg :=
  ⟨PySem.W.mg_none_of X G a1, PySem.W.mg_none_of X G a2, PySem.W.mg_none_of X G a3, PySem.W.mg_none_of X G a4, PySem.W.mg_none_of X G a5, PySem.W.mg_none_of X G a6, PySem.W.mg_none_of X G a7, PySem.W.mg_none_of X G a8, PySem.W.mg_none_of X G a9, PySem.W.mg_none_of X G a10⟩
structure Defs (K : PySem.W.Frag) (mg : Str → Option Value) (CN CR : Addr) : Prop where
  pressed_core : DB K mg "pressed_core" s_pressed_core ["core", "at"]
  core_ties : DB K mg "core_ties" s_core_ties ["core"]
  is_name : DB K mg "is_name" s_is_name ["text"]
  ordered_points : DB K mg "ordered_points" s_ordered_points ["points"]
  core_of_ties : DB K mg "core_of_ties" s_core_of_ties ["points", "ties"]
  made_net : DB K mg "made_net" s_made_net ["points", "core"]
  net_of_core : DB K mg "net_of_core" s_net_of_core ["points", "core"]
  reached_cores : DB K mg "reached_cores" s_reached_cores ["core"]
  core_path : DB K mg "core_path" s_core_path ["core", "goal"]
  press_path : DB K mg "press_path" s_press_path ["one", "two"]
  orders_of : DB K mg "orders_of" s_orders_of ["count"]
  placed_core : DB K mg "placed_core" s_placed_core ["core", "order"]
  law_cell : DB K mg "_law_cell" s_law_cell ["_law_script", "_law_k"]
  law_digits : DB K mg "_law_digits" s_law_digits ["_law_cell_here", "_law_sizes"]
  law_names : DB K mg "_law_names" s_law_names ["_law_row", "_law_many"]
  law_pairs : DB K mg "_law_pairs" s_law_pairs ["_law_many"]
  law_masks : DB K mg "_law_masks" s_law_masks ["_law_row", "_law_many"]
  law_has : DB K mg "_law_has" s_law_has ["_law_mask", "_law_k"]
  law_net : DB K mg "_law_net" s_law_net ["_law_names_here", "_law_masks_here", "_law_row"]
  law_press : DB K mg "_law_press" s_law_press ["_law_masks_here", "_law_at"]
  law_rows : DB K mg "_law_rows" s_law_rows ["_law_masks_here"]
  law_is_net : DB K mg "_law_is_net" s_law_is_net ["_law_told", "_law_names_here", "_law_masks_here"]
  law_orders : DB K mg "_law_orders" s_law_orders ["_law_many"]
  law_moved : DB K mg "_law_moved" s_law_moved ["_law_masks_here", "_law_order"]
  law_due : DB K mg "_law_due" s_law_due ["_law_names_here", "_law_masks_here", "_law_others", "_law_second_here"]
  law_strings : DB K mg "_law_strings" s_law_strings ["_law_told", "_law_due_here"]
  law_right : DB K mg "_law_right" s_law_right ["_law_net_here", "_law_other", "_law_due_here", "_law_way"]
  law_second : DB K mg "_law_second" s_law_second ["_law_masks_here", "_law_row", "_law_drawn"]
  renaming_to : DK K mg "renaming_to" s_renaming_to ["one", "two"] ["two", "one"]
  net_init : DI K mg "Net" CN "Net.__init__" s_net_init ["self", "points", "ties"]
  ren_init : DI K mg "Renaming" CR "Renaming.__init__" s_ren_init ["self", "pairs", "presses"]
  net_len : ∃ f fd, Meth K CN "__len__" f ∧ C8.Fun K "__len__" "Net.__len__" s_net_len f fd ∧ Binds K fd ["self"] []
theorem cls_mk {h : Heap} (X : K.In h) (G : h.Ns mainGlobals mg)
    {z1 z2 : Str} {t1 t2 t3 : Tok} {i3 : Int} {f1 f2 f3 : Addr} {oc1 oc2 oc3 : Value} {od1 an1 od2 an2 od3 an3 : Option Addr} {sl1 sl2 sl3 : Array (Option Value)} {kV1 dc1 pm1 cd1 ct1 kV2 dc2 pm2 cd2 ct2 kV3 dc3 pm3 cd3 ct3 : Value}
    (gN : PySem.W.nsIn K mainGlobals "Net" = some (some (.ref CN))) (gR : PySem.W.nsIn K mainGlobals "Renaming" = some (some (.ref CR)))
    (g1 : PySem.W.nsIn K mainGlobals "LETTERS" = some (some (.str z1 t1))) (g2 : PySem.W.nsIn K mainGlobals "DIGITS" = some (some (.str z2 t2))) (g3 : PySem.W.nsIn K mainGlobals "LONGEST" = some (some (.int i3 t3))) (e1 : z1 = sLETTERS) (e2 : z2 = sDIGITS) (e3 : i3 = 8)
    (pgN : PySem.W.plainGet K CN Str.empty = true) (hdN : PySem.W.hasDictIn K CN = true) (poN : PySem.W.plainOver K CN = true) (saN : PySem.W.findIn K (.ref CN) "__setattr__" = some (some (.builtin "object.__setattr__")))
    (pgR : PySem.W.plainGet K CR Str.empty = true) (hdR : PySem.W.hasDictIn K CR = true) (poR : PySem.W.plainOver K CR = true) (saR : PySem.W.findIn K (.ref CR) "__setattr__" = some (some (.builtin "object.__setattr__")))
    (n1 : PySem.W.findIn K (.ref CN) "points" = some none) (n2 : PySem.W.findIn K (.ref CN) "core" = some none) (n3 : PySem.W.findIn K (.ref CN) "ties" = some none) (n4 : PySem.W.findIn K (.ref CR) "pairs" = some none) (n5 : PySem.W.findIn K (.ref CR) "presses" = some none)
    (haN : PySem.W.findIn K (.ref CN) "__class__" = some (some (.builtin "object.__class__"))) (haR : PySem.W.findIn K (.ref CR) "__class__" = some (some (.builtin "object.__class__")))
    (hn : PySem.W.specialIn K (.builtin "object.__class__") "__get__" = some (some (.builtin "getset_descriptor.__get__"))) (htk : PySem.W.takesIn K (.builtin "object.__class__") = some true)
    (hmN : PySem.W.mroIn K CN (.type "object") = some true) (hmR : PySem.W.mroIn K CR (.type "object") = some true)
    (i1 : PySem.W.findIn K (.ref CN) "__init__" = some (some (.ref f1))) (y1 : PySem.W.isFn K (.ref f1) = true) (m1 : PySem.W.makesIn K CN = true) (k1 : PySem.W.keepIn K (.ref CN) = true)
    (l1 : K.lookup f1 = some ⟨oc1, od1, .func (PySem.W.fnOf "__init__" "Net.__init__" (C8.fnArgs s_net_init) (C8.fnBody s_net_init) (C8.fnScope s_net_init) .none kV1 dc1 pm1 an1 cd1 ct1), sl1⟩) (c1 : PySem.W.codeIn K cd1 "Net.__init__" = true)
    (i2 : PySem.W.findIn K (.ref CR) "__init__" = some (some (.ref f2))) (y2 : PySem.W.isFn K (.ref f2) = true) (m2 : PySem.W.makesIn K CR = true) (k2 : PySem.W.keepIn K (.ref CR) = true)
    (l2 : K.lookup f2 = some ⟨oc2, od2, .func (PySem.W.fnOf "__init__" "Renaming.__init__" (C8.fnArgs s_ren_init) (C8.fnBody s_ren_init) (C8.fnScope s_ren_init) .none kV2 dc2 pm2 an2 cd2 ct2), sl2⟩) (c2 : PySem.W.codeIn K cd2 "Renaming.__init__" = true)
    (i3' : PySem.W.findIn K (.ref CN) "__len__" = some (some (.ref f3))) (y3 : PySem.W.isFn K (.ref f3) = true) (k3 : PySem.W.keepIn K (.ref f3) = true)
    (l3 : K.lookup f3 = some ⟨oc3, od3, .func (PySem.W.fnOf "__len__" "Net.__len__" (C8.fnArgs s_net_len) (C8.fnBody s_net_len) (C8.fnScope s_net_len) .none kV3 dc3 pm3 an3 cd3 ct3), sl3⟩) (c3 : PySem.W.codeIn K cd3 "Net.__len__" = true) :
    ∃ CN CR, Glob mg CN CR ∧ ClsN K CN ∧ ClsR K CR ∧ InsC K CN ∧ InsC K CR ∧ DI K mg "Net" CN "Net.__init__" s_net_init ["self", "points", "ties"] ∧ DI K mg "Renaming" CR "Renaming.__init__" s_ren_init ["self", "pairs", "presses"] ∧
      ∃ f fd, Meth K CN "__len__" f ∧ C8.Fun K "__len__" "Net.__len__" s_net_len f fd ∧ Binds K fd ["self"] [] :=
  ⟨CN, CR, glob_mk X G g1 g2 g3 gN gR e1 e2 e3, ⟨⟨pgN, hdN, poN, saN⟩, n1, n2, n3⟩, ⟨⟨pgR, hdR, poR, saR⟩, n4, n5⟩, ⟨haN, hn, htk, hmN⟩, ⟨haR, hn, htk, hmR⟩,
    di_mk X G gN i1 y1 m1 k1 l1 c1 (fun _ _ _ _ _ _ us hl => match us, hl with | [_, _, _], _ => rfl), di_mk X G gR i2 y2 m2 k2 l2 c2 (fun _ _ _ _ _ _ us hl => match us, hl with | [_, _, _], _ => rfl), dl_mk i3' y3 k3 l3 c3⟩
theorem all_ok (B : Bi mg) (T : Glob mg CN CR) (CLN : ClsN K CN) (CLR : ClsR K CR) (ICN : InsC K CN) (ICR : InsC K CR) (D : Defs K mg CN CR) {f : Addr} {fd : FuncData} (F : C8.Fun K "law" "law" s_law f fd) : FnOk P w K mg base C8.CX0 9 f fd ["_law_script"] (sp_law K) := by
  have pressed := c_pressed_core (P := P) (w := w) (base := base) B D.pressed_core
  have ties := c_core_ties (P := P) (w := w) (base := base) B D.core_ties
  have placed := c_placed_core (P := P) (w := w) (base := base) B D.placed_core
  have orders := c_orders_of (P := P) (w := w) (base := base) B D.orders_of
  have isname := c_is_name (P := P) (w := w) (base := base) B T D.is_name
  have ordered := c_ordered_points B isname D.ordered_points
  have cot := c_core_of_ties (P := P) (w := w) (base := base) B D.core_of_ties
  have ninit := c_net_init B CLN ordered cot ties D.net_init
  have nlen := c_net_len (P := P) (w := w) (base := base) B CLN D.net_len
  have made := c_made_net B ninit ties D.made_net
  have noc := c_net_of_core made D.net_of_core
  have reached := c_reached_cores B pressed D.reached_cores
  have cpath := c_core_path B pressed D.core_path
  have rinit := c_ren_init (P := P) (w := w) (base := base) CLR D.ren_init
  have ppath := c_press_path B CLN cpath D.press_path
  have renam := c_renaming_to B CLN nlen reached orders placed rinit ppath noc D.renaming_to
  have has := c_law_has (P := P) (w := w) (base := base) B D.law_has
  have lpairs := c_law_pairs (P := P) (w := w) (base := base) B D.law_pairs
  have lpress := c_law_press B has D.law_press
  have lorders := c_law_orders (P := P) (w := w) (base := base) B D.law_orders
  have lmoved := c_law_moved B has D.law_moved
  have lrows := c_law_rows B lpress D.law_rows
  have ldue := c_law_due B lrows lorders lmoved D.law_due
  have lstr := c_law_strings (P := P) (w := w) (base := base) B D.law_strings
  have lright := c_law_right B T CLR ICR renam.1 renam.2 lstr D.law_right
  have lnet := c_law_net B lpairs has ninit D.law_net
  have lisnet := c_law_is_net B T CLN ICN lpairs has D.law_is_net
  have lcell := c_law_cell (P := P) (w := w) (base := base) B D.law_cell
  have ldig := c_law_digits (P := P) (w := w) (base := base) B D.law_digits
  have lmasks := c_law_masks B lpairs D.law_masks
  have lsecond := c_law_second B lpress lpairs lorders lmoved D.law_second
  have lnames := c_law_names (P := P) (w := w) (base := base) B D.law_names
  exact c_law B ⟨lcell, ldig, lmasks, lsecond, lnames, lnet, ldue, lright, lisnet⟩ F
theorem fin_mk {h : Heap} (X : K.In h) (G : h.Ns mainGlobals mg) {fa f4 : Addr} (hfa : mg "law" = some (.ref fa)) {oc : Value} {od an : Option Addr} {sl : Array (Option Value)} {kV dc pm cd ct : Value}
    (B : Bi mg) (T : Glob mg CN CR) (CLN : ClsN K CN) (CLR : ClsR K CR) (ICN : InsC K CN) (ICR : InsC K CR) (D : Defs K mg CN CR)
    (a : PySem.W.nsIn K mainGlobals "law" = some (some (.ref f4))) (l : K.lookup f4 = some ⟨oc, od, .func (PySem.W.fnOf "law" "law" (C8.fnArgs s_law) (C8.fnBody s_law) (C8.fnScope s_law) .none kV dc pm an cd ct), sl⟩) (c : PySem.W.codeIn K cd "law" = true) :
    ∃ fd : FuncData, (∀ (s : Shared) (v : Value), BindsTo s fd ⟨[v], []⟩ [("_law_script", v)]) ∧ ∀ base : Heap, K.In base → base.Ns mainGlobals mg → FnOk P w K mg base C8.CX0 9 fa fd ["_law_script"] (sp_law K) := by
  have e := hfa.symm.trans (PySem.W.mg_of X G a)
  cases e
  exact ⟨_, fun s v => .of_eq rfl, fun base _ _ => all_ok B T CLN CLR ICN ICR D (fun_mk8 l c)⟩
end
end K81
end

set_option maxHeartbeats 0 in
open PySem PySem.W PyProof.Rows in
theorem PySem.Challenge.cw_tiepress_k81_renamings_whole_holds : PySem.Challenge.rw_tiepress_k81_renamings_whole.Holds := by
  w_on; o_law; k_head; (case hw => w_witness2)
  k_fill
  refine L2.walk_ofK (l := PySem.Challenge.rw_tiepress_k81_renamings_whole) (n := 63) (k := 9) (x := "_law_script") (CX := C8.CX0) (sp := K81.sp_law) rfl (by decide) rfl ⟨rfl, by decide, by decide⟩ (fun w h Y => PySem.W.kIn_of Y) ?F (fun K H a ns hl _ hS => ⟨a, ns, rfl, hS, fun v H' _ h => h⟩) (fun _ _ _ _ h => h)
  case F =>
    intro w mg fa h KX G hmg
    have B : K81.Bi mg := by
      refine' K81.bi_mk KX G ?a1 ?a2 ?a3 ?a4 ?a5 ?a6 ?a7 ?a8 ?a9 ?a10
      (case a1 => k_is)
      (case a2 => k_is)
      (case a3 => k_is)
      (case a4 => k_is)
      (case a5 => k_is)
      (case a6 => k_is)
      (case a7 => k_is)
      (case a8 => k_is)
      (case a9 => k_is)
      (case a10 => k_is)
    have CLS := by
      refine' K81.cls_mk (mg := mg) KX G ?gN ?gR ?g1 ?g2 ?g3 ?e1 ?e2 ?e3 ?pgN ?hdN ?poN ?saN ?pgR ?hdR ?poR ?saR ?n1 ?n2 ?n3 ?n4 ?n5 ?haN ?haR ?hn ?htk ?hmN ?hmR ?i1 ?y1 ?m1 ?k1 ?l1 ?c1 ?i2 ?y2 ?m2 ?k2 ?l2 ?c2 ?i3 ?y3 ?k3 ?l3 ?c3
      (case gN => k_is)
      (case gR => k_is)
      (case g1 => k_is)
      (case g2 => k_is)
      (case g3 => k_is)
      (case e1 => rfl)
      (case e2 => rfl)
      (case e3 => rfl)
      (case pgN => k_is)
      (case hdN => k_is)
      (case poN => k_is)
      (case saN => k_is)
      (case pgR => k_is)
      (case hdR => k_is)
      (case poR => k_is)
      (case saR => k_is)
      (case n1 => k_is)
      (case n2 => k_is)
      (case n3 => k_is)
      (case n4 => k_is)
      (case n5 => k_is)
      (case haN => k_is)
      (case haR => k_is)
      (case hn => k_is)
      (case htk => k_is)
      (case hmN => k_is)
      (case hmR => k_is)
      (case i1 => k_is)
      (case y1 => k_is)
      (case m1 => k_is)
      (case k1 => k_is)
      (case l1 => k_is)
      (case c1 => k_is)
      (case i2 => k_is)
      (case y2 => k_is)
      (case m2 => k_is)
      (case k2 => k_is)
      (case l2 => k_is)
      (case c2 => k_is)
      (case i3 => k_is)
      (case y3 => k_is)
      (case k3 => k_is)
      (case l3 => k_is)
      (case c3 => k_is)
    obtain ⟨CN, CR, T, CLN, CLR, ICN, ICR, DN, DR, DL⟩ := CLS
    have D_pressed_core := by
      refine' K81.db_mk (mg := mg) (x := "pressed_core") (st := K81.s_pressed_core) (ps := ["core", "at"]) KX G ?a ?l ?c ?k ?b
      (case a => k_is)
      (case l => k_is)
      (case c => k_is)
      (case k => k_is)
      (case b => exact fun _ _ _ _ _ _ us hl => match us, hl with | [_, _], _ => rfl)
    have D_core_ties := by
      refine' K81.db_mk (mg := mg) (x := "core_ties") (st := K81.s_core_ties) (ps := ["core"]) KX G ?a ?l ?c ?k ?b
      (case a => k_is)
      (case l => k_is)
      (case c => k_is)
      (case k => k_is)
      (case b => exact fun _ _ _ _ _ _ us hl => match us, hl with | [_], _ => rfl)
    have D_is_name := by
      refine' K81.db_mk (mg := mg) (x := "is_name") (st := K81.s_is_name) (ps := ["text"]) KX G ?a ?l ?c ?k ?b
      (case a => k_is)
      (case l => k_is)
      (case c => k_is)
      (case k => k_is)
      (case b => exact fun _ _ _ _ _ _ us hl => match us, hl with | [_], _ => rfl)
    have D_ordered_points := by
      refine' K81.db_mk (mg := mg) (x := "ordered_points") (st := K81.s_ordered_points) (ps := ["points"]) KX G ?a ?l ?c ?k ?b
      (case a => k_is)
      (case l => k_is)
      (case c => k_is)
      (case k => k_is)
      (case b => exact fun _ _ _ _ _ _ us hl => match us, hl with | [_], _ => rfl)
    have D_core_of_ties := by
      refine' K81.db_mk (mg := mg) (x := "core_of_ties") (st := K81.s_core_of_ties) (ps := ["points", "ties"]) KX G ?a ?l ?c ?k ?b
      (case a => k_is)
      (case l => k_is)
      (case c => k_is)
      (case k => k_is)
      (case b => exact fun _ _ _ _ _ _ us hl => match us, hl with | [_, _], _ => rfl)
    have D_made_net := by
      refine' K81.db_mk (mg := mg) (x := "made_net") (st := K81.s_made_net) (ps := ["points", "core"]) KX G ?a ?l ?c ?k ?b
      (case a => k_is)
      (case l => k_is)
      (case c => k_is)
      (case k => k_is)
      (case b => exact fun _ _ _ _ _ _ us hl => match us, hl with | [_, _], _ => rfl)
    have D_net_of_core := by
      refine' K81.db_mk (mg := mg) (x := "net_of_core") (st := K81.s_net_of_core) (ps := ["points", "core"]) KX G ?a ?l ?c ?k ?b
      (case a => k_is)
      (case l => k_is)
      (case c => k_is)
      (case k => k_is)
      (case b => exact fun _ _ _ _ _ _ us hl => match us, hl with | [_, _], _ => rfl)
    have D_reached_cores := by
      refine' K81.db_mk (mg := mg) (x := "reached_cores") (st := K81.s_reached_cores) (ps := ["core"]) KX G ?a ?l ?c ?k ?b
      (case a => k_is)
      (case l => k_is)
      (case c => k_is)
      (case k => k_is)
      (case b => exact fun _ _ _ _ _ _ us hl => match us, hl with | [_], _ => rfl)
    have D_core_path := by
      refine' K81.db_mk (mg := mg) (x := "core_path") (st := K81.s_core_path) (ps := ["core", "goal"]) KX G ?a ?l ?c ?k ?b
      (case a => k_is)
      (case l => k_is)
      (case c => k_is)
      (case k => k_is)
      (case b => exact fun _ _ _ _ _ _ us hl => match us, hl with | [_, _], _ => rfl)
    have D_press_path := by
      refine' K81.db_mk (mg := mg) (x := "press_path") (st := K81.s_press_path) (ps := ["one", "two"]) KX G ?a ?l ?c ?k ?b
      (case a => k_is)
      (case l => k_is)
      (case c => k_is)
      (case k => k_is)
      (case b => exact fun _ _ _ _ _ _ us hl => match us, hl with | [_, _], _ => rfl)
    have D_orders_of := by
      refine' K81.db_mk (mg := mg) (x := "orders_of") (st := K81.s_orders_of) (ps := ["count"]) KX G ?a ?l ?c ?k ?b
      (case a => k_is)
      (case l => k_is)
      (case c => k_is)
      (case k => k_is)
      (case b => exact fun _ _ _ _ _ _ us hl => match us, hl with | [_], _ => rfl)
    have D_placed_core := by
      refine' K81.db_mk (mg := mg) (x := "placed_core") (st := K81.s_placed_core) (ps := ["core", "order"]) KX G ?a ?l ?c ?k ?b
      (case a => k_is)
      (case l => k_is)
      (case c => k_is)
      (case k => k_is)
      (case b => exact fun _ _ _ _ _ _ us hl => match us, hl with | [_, _], _ => rfl)
    have D_law_cell := by
      refine' K81.db_mk (mg := mg) (x := "_law_cell") (st := K81.s_law_cell) (ps := ["_law_script", "_law_k"]) KX G ?a ?l ?c ?k ?b
      (case a => k_is)
      (case l => k_is)
      (case c => k_is)
      (case k => k_is)
      (case b => exact fun _ _ _ _ _ _ us hl => match us, hl with | [_, _], _ => rfl)
    have D_law_digits := by
      refine' K81.db_mk (mg := mg) (x := "_law_digits") (st := K81.s_law_digits) (ps := ["_law_cell_here", "_law_sizes"]) KX G ?a ?l ?c ?k ?b
      (case a => k_is)
      (case l => k_is)
      (case c => k_is)
      (case k => k_is)
      (case b => exact fun _ _ _ _ _ _ us hl => match us, hl with | [_, _], _ => rfl)
    have D_law_names := by
      refine' K81.db_mk (mg := mg) (x := "_law_names") (st := K81.s_law_names) (ps := ["_law_row", "_law_many"]) KX G ?a ?l ?c ?k ?b
      (case a => k_is)
      (case l => k_is)
      (case c => k_is)
      (case k => k_is)
      (case b => exact fun _ _ _ _ _ _ us hl => match us, hl with | [_, _], _ => rfl)
    have D_law_pairs := by
      refine' K81.db_mk (mg := mg) (x := "_law_pairs") (st := K81.s_law_pairs) (ps := ["_law_many"]) KX G ?a ?l ?c ?k ?b
      (case a => k_is)
      (case l => k_is)
      (case c => k_is)
      (case k => k_is)
      (case b => exact fun _ _ _ _ _ _ us hl => match us, hl with | [_], _ => rfl)
    have D_law_masks := by
      refine' K81.db_mk (mg := mg) (x := "_law_masks") (st := K81.s_law_masks) (ps := ["_law_row", "_law_many"]) KX G ?a ?l ?c ?k ?b
      (case a => k_is)
      (case l => k_is)
      (case c => k_is)
      (case k => k_is)
      (case b => exact fun _ _ _ _ _ _ us hl => match us, hl with | [_, _], _ => rfl)
    have D_law_has := by
      refine' K81.db_mk (mg := mg) (x := "_law_has") (st := K81.s_law_has) (ps := ["_law_mask", "_law_k"]) KX G ?a ?l ?c ?k ?b
      (case a => k_is)
      (case l => k_is)
      (case c => k_is)
      (case k => k_is)
      (case b => exact fun _ _ _ _ _ _ us hl => match us, hl with | [_, _], _ => rfl)
    have D_law_net := by
      refine' K81.db_mk (mg := mg) (x := "_law_net") (st := K81.s_law_net) (ps := ["_law_names_here", "_law_masks_here", "_law_row"]) KX G ?a ?l ?c ?k ?b
      (case a => k_is)
      (case l => k_is)
      (case c => k_is)
      (case k => k_is)
      (case b => exact fun _ _ _ _ _ _ us hl => match us, hl with | [_, _, _], _ => rfl)
    have D_law_press := by
      refine' K81.db_mk (mg := mg) (x := "_law_press") (st := K81.s_law_press) (ps := ["_law_masks_here", "_law_at"]) KX G ?a ?l ?c ?k ?b
      (case a => k_is)
      (case l => k_is)
      (case c => k_is)
      (case k => k_is)
      (case b => exact fun _ _ _ _ _ _ us hl => match us, hl with | [_, _], _ => rfl)
    have D_law_rows := by
      refine' K81.db_mk (mg := mg) (x := "_law_rows") (st := K81.s_law_rows) (ps := ["_law_masks_here"]) KX G ?a ?l ?c ?k ?b
      (case a => k_is)
      (case l => k_is)
      (case c => k_is)
      (case k => k_is)
      (case b => exact fun _ _ _ _ _ _ us hl => match us, hl with | [_], _ => rfl)
    have D_law_is_net := by
      refine' K81.db_mk (mg := mg) (x := "_law_is_net") (st := K81.s_law_is_net) (ps := ["_law_told", "_law_names_here", "_law_masks_here"]) KX G ?a ?l ?c ?k ?b
      (case a => k_is)
      (case l => k_is)
      (case c => k_is)
      (case k => k_is)
      (case b => exact fun _ _ _ _ _ _ us hl => match us, hl with | [_, _, _], _ => rfl)
    have D_law_orders := by
      refine' K81.db_mk (mg := mg) (x := "_law_orders") (st := K81.s_law_orders) (ps := ["_law_many"]) KX G ?a ?l ?c ?k ?b
      (case a => k_is)
      (case l => k_is)
      (case c => k_is)
      (case k => k_is)
      (case b => exact fun _ _ _ _ _ _ us hl => match us, hl with | [_], _ => rfl)
    have D_law_moved := by
      refine' K81.db_mk (mg := mg) (x := "_law_moved") (st := K81.s_law_moved) (ps := ["_law_masks_here", "_law_order"]) KX G ?a ?l ?c ?k ?b
      (case a => k_is)
      (case l => k_is)
      (case c => k_is)
      (case k => k_is)
      (case b => exact fun _ _ _ _ _ _ us hl => match us, hl with | [_, _], _ => rfl)
    have D_law_due := by
      refine' K81.db_mk (mg := mg) (x := "_law_due") (st := K81.s_law_due) (ps := ["_law_names_here", "_law_masks_here", "_law_others", "_law_second_here"]) KX G ?a ?l ?c ?k ?b
      (case a => k_is)
      (case l => k_is)
      (case c => k_is)
      (case k => k_is)
      (case b => exact fun _ _ _ _ _ _ us hl => match us, hl with | [_, _, _, _], _ => rfl)
    have D_law_strings := by
      refine' K81.db_mk (mg := mg) (x := "_law_strings") (st := K81.s_law_strings) (ps := ["_law_told", "_law_due_here"]) KX G ?a ?l ?c ?k ?b
      (case a => k_is)
      (case l => k_is)
      (case c => k_is)
      (case k => k_is)
      (case b => exact fun _ _ _ _ _ _ us hl => match us, hl with | [_, _], _ => rfl)
    have D_law_right := by
      refine' K81.db_mk (mg := mg) (x := "_law_right") (st := K81.s_law_right) (ps := ["_law_net_here", "_law_other", "_law_due_here", "_law_way"]) KX G ?a ?l ?c ?k ?b
      (case a => k_is)
      (case l => k_is)
      (case c => k_is)
      (case k => k_is)
      (case b => exact fun _ _ _ _ _ _ us hl => match us, hl with | [_, _, _, _], _ => rfl)
    have D_law_second := by
      refine' K81.db_mk (mg := mg) (x := "_law_second") (st := K81.s_law_second) (ps := ["_law_masks_here", "_law_row", "_law_drawn"]) KX G ?a ?l ?c ?k ?b
      (case a => k_is)
      (case l => k_is)
      (case c => k_is)
      (case k => k_is)
      (case b => exact fun _ _ _ _ _ _ us hl => match us, hl with | [_, _, _], _ => rfl)
    have D_renaming_to := by
      refine' K81.dk_mk (mg := mg) (x := "renaming_to") (st := K81.s_renaming_to) (p1 := "one") (p2 := "two") KX G ?a ?l ?c ?k ?b ?bk2
      (case a => k_is)
      (case l => k_is)
      (case c => k_is)
      (case k => k_is)
      (case b => exact fun _ _ _ _ _ _ us hl => match us, hl with | [_, _], _ => rfl)
      (case bk2 => exact fun _ _ _ _ _ _ _ _ => rfl)
    refine' K81.fin_mk KX G hmg B T CLN CLR ICN ICR ⟨D_pressed_core, D_core_ties, D_is_name, D_ordered_points, D_core_of_ties, D_made_net, D_net_of_core, D_reached_cores, D_core_path, D_press_path, D_orders_of, D_placed_core, D_law_cell, D_law_digits, D_law_names, D_law_pairs, D_law_masks, D_law_has, D_law_net, D_law_press, D_law_rows, D_law_is_net, D_law_orders, D_law_moved, D_law_due, D_law_strings, D_law_right, D_law_second, D_renaming_to, DN, DR, DL⟩ ?a ?l ?c
    (case a => k_is)
    (case l => k_is)
    (case c => k_is)
