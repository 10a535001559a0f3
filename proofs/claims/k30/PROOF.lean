import PyProof.Rows.All
import Wide.All
import OpenK.AllK
import Wide.FinOn
import HandS.ForMost
import HandS.ForExc
import HandS.DictTup
import HandS.Deep
import HandS.TupSets
import KE.DataCmp
import KE.KDictWalk
import HandS.Defaults
import HandS.Star
import HandS.Flow
import HandS.Conv
import HandS.Zip
import HandS.Walk
import HandS.EndBits
import HandS.TryOnly
import HandS.ForSpec
import PySem.Challenge.RW_paironce_k30_whole_completions
import KE.SortData
set_option Elab.async false
set_option linter.all false
set_option maxRecDepth 100000
section
/-! Plain mathematics of threes and completions: no program in sight. -/
namespace K30
abbrev Pr := Nat × Nat
abbrev Tri := Nat × Nat × Nat

def ltP (p q : Pr) : Prop := p.1 < q.1 ∨ (p.1 = q.1 ∧ p.2 < q.2)
def ltT (t u : Tri) : Prop := t.1 < u.1 ∨ (t.1 = u.1 ∧ (t.2.1 < u.2.1 ∨ (t.2.1 = u.2.1 ∧ t.2.2 < u.2.2)))
def leT (t u : Tri) : Prop := t.1 < u.1 ∨ (t.1 = u.1 ∧ (t.2.1 < u.2.1 ∨ (t.2.1 = u.2.1 ∧ t.2.2 ≤ u.2.2)))
instance (t u : Tri) : Decidable (leT t u) := by unfold leT; infer_instance
instance (t u : Tri) : Decidable (ltT t u) := by unfold ltT; infer_instance

def pairsOf (t : Tri) : List Pr := [(t.1, t.2.1), (t.1, t.2.2), (t.2.1, t.2.2)]
def hl (T : List Tri) : List Pr := T.flatMap pairsOf
def allPairs (n : Nat) : List Pr := (List.range n).flatMap fun a => (List.range' (a + 1) (n - (a + 1))).map fun b => (a, b)
def openOf (n : Nat) (L : List Pr) : List Pr := (allPairs n).filter fun p => decide (p ∉ L)
def op (a b : Nat) : Pr := (min a b, max a b)
def thirdsOf (n : Nat) (L : List Pr) (p : Pr) : List Nat :=
  (List.range n).filter fun c => decide (c ≠ p.1 ∧ c ≠ p.2 ∧ op p.1 c ∉ L ∧ op p.2 c ∉ L)
def tri (p : Pr) (c : Nat) : Tri := if c < p.1 then (c, p.1, p.2) else if c < p.2 then (p.1, c, p.2) else (p.1, p.2, c)
def okT (n : Nat) (t : Tri) : Prop := t.1 < t.2.1 ∧ t.2.1 < t.2.2 ∧ t.2.2 < n

structure Sys (n : Nat) (T : List Tri) : Prop where
  ok : ∀ t ∈ T, okT n t
  nd : (hl T).Nodup
structure Whole (n : Nat) (W : List Tri) : Prop extends Sys n W where
  all : ∀ p ∈ allPairs n, p ∈ hl W

theorem mem_allPairs {n : Nat} {p : Pr} : p ∈ allPairs n ↔ p.1 < p.2 ∧ p.2 < n := by
  obtain ⟨a, b⟩ := p
  unfold allPairs
  simp only [List.mem_flatMap, List.mem_range, List.mem_map, List.mem_range'_1]
  constructor
  · rintro ⟨x, hx, y, hy, e⟩
    cases e
    show a < b ∧ b < n
    omega
  · rintro ⟨h1, h2⟩
    have h1' : a < b := h1
    have h2' : b < n := h2
    exact ⟨a, by omega, b, by omega, rfl⟩
theorem allPairs_sorted (n : Nat) : (allPairs n).Pairwise ltP := by
  unfold allPairs
  rw [List.pairwise_flatMap]
  refine ⟨fun a _ => ?_, ?_⟩
  · rw [List.pairwise_map]
    exact (List.pairwise_lt_range' (s := a + 1) (n := n - (a + 1))).imp fun h => .inr ⟨rfl, h⟩
  · refine (List.pairwise_lt_range (n := n)).imp fun {a b} h x hx y hy => ?_
    obtain ⟨x', _, rfl⟩ := List.mem_map.mp hx
    obtain ⟨y', _, rfl⟩ := List.mem_map.mp hy
    exact .inl h
theorem ltP_ne {p q : Pr} (h : ltP p q) : p ≠ q := by
  rintro rfl
  unfold ltP at h
  omega
theorem ltT_ne {p q : Tri} (h : ltT p q) : p ≠ q := by
  rintro rfl
  unfold ltT at h
  omega
theorem allPairs_nodup (n : Nat) : (allPairs n).Nodup := (allPairs_sorted n).imp ltP_ne
theorem mem_openOf {n : Nat} {L : List Pr} {p : Pr} : p ∈ openOf n L ↔ (p.1 < p.2 ∧ p.2 < n) ∧ p ∉ L := by
  unfold openOf
  rw [List.mem_filter, mem_allPairs, decide_eq_true_eq]
theorem openOf_sorted (n : Nat) (L : List Pr) : (openOf n L).Pairwise ltP := (allPairs_sorted n).filter _
theorem openOf_nodup (n : Nat) (L : List Pr) : (openOf n L).Nodup := (openOf_sorted n L).imp ltP_ne
theorem mem_thirdsOf {n : Nat} {L : List Pr} {p : Pr} {c : Nat} : c ∈ thirdsOf n L p ↔ c < n ∧ c ≠ p.1 ∧ c ≠ p.2 ∧ op p.1 c ∉ L ∧ op p.2 c ∉ L := by
  unfold thirdsOf
  rw [List.mem_filter, List.mem_range, decide_eq_true_eq]
theorem mem_hl {T : List Tri} {p : Pr} : p ∈ hl T ↔ ∃ t ∈ T, p ∈ pairsOf t := List.mem_flatMap
theorem hl_append (T U : List Tri) : hl (T ++ U) = hl T ++ hl U := by
  unfold hl
  rw [List.flatMap_append]
theorem hl_one (t : Tri) : hl [t] = pairsOf t := by
  show pairsOf t ++ [] = _
  rw [List.append_nil]
theorem hl_len (T : List Tri) : (hl T).length = 3 * T.length := by
  induction T with
  | nil => rfl
  | cons t T ih =>
    show (pairsOf t ++ hl T).length = _
    rw [List.length_append, ih, List.length_cons]
    show 3 + 3 * T.length = _
    omega
theorem Sys.sub {n : Nat} {T : List Tri} (S : Sys n T) : ∀ p ∈ hl T, p.1 < p.2 ∧ p.2 < n := fun p hp => by
  obtain ⟨t, ht, hq⟩ := mem_hl.mp hp
  have o := S.ok t ht
  unfold okT at o
  unfold pairsOf at hq
  simp only [List.mem_cons, List.not_mem_nil, or_false] at hq
  rcases hq with rfl | rfl | rfl
  · show t.1 < t.2.1 ∧ t.2.1 < n; omega
  · show t.1 < t.2.2 ∧ t.2.2 < n; omega
  · show t.2.1 < t.2.2 ∧ t.2.2 < n; omega
theorem open_perm {n : Nat} {L : List Pr} (hn : L.Nodup) (hs : ∀ p ∈ L, p.1 < p.2 ∧ p.2 < n) : (openOf n L ++ L).Perm (allPairs n) := by
  refine (List.perm_ext_iff_of_nodup ?_ (allPairs_nodup n)).mpr fun p => ?_
  · refine List.nodup_append.mpr ⟨openOf_nodup n L, hn, fun a ha b hb e => ?_⟩
    subst e
    exact (mem_openOf.mp ha).2 hb
  · rw [List.mem_append, mem_openOf, mem_allPairs]
    constructor
    · rintro (h | h)
      · exact h.1
      · exact hs p h
    · intro h
      by_cases c : p ∈ L
      · exact .inr c
      · exact .inl ⟨h, c⟩
theorem open_len {n : Nat} {T : List Tri} (S : Sys n T) : (openOf n (hl T)).length + 3 * T.length = (allPairs n).length := by
  have h := (open_perm S.nd S.sub).length_eq
  rw [List.length_append, hl_len] at h
  exact h

/-! ### one three put in -/
theorem opr_eq {a b c : Nat} (_ : a ≠ b) (_ : a ≠ c) (e : op a b = op a c) : b = c := by
  unfold op at e
  have e1 := congrArg Prod.fst e
  have e2 := congrArg Prod.snd e
  have e1' : min a b = min a c := e1
  have e2' : max a b = max a c := e2
  omega
theorem opr_lt {a b : Nat} (h : a < b) : op a b = (a, b) := by
  unfold op
  rw [Nat.min_eq_left (by omega), Nat.max_eq_right (by omega)]
theorem opr_gt {a b : Nat} (h : b < a) : op a b = (b, a) := by
  unfold op
  rw [Nat.min_eq_right (by omega), Nat.max_eq_left (by omega)]
theorem thirds_len {n : Nat} {L : List Pr} {p : Pr} (hp : p ∈ openOf n L) : (thirdsOf n L p).length + 1 ≤ (openOf n L).length := by
  obtain ⟨⟨h1, h2⟩, h3⟩ := mem_openOf.mp hp
  have hN : (thirdsOf n L p).Nodup := (List.nodup_range (n := n)).filter _
  have nd : (p :: (thirdsOf n L p).map (op p.1)).Nodup := by
    rw [List.nodup_cons]
    refine ⟨fun h => ?_, ?_⟩
    · obtain ⟨c, hc, e⟩ := List.mem_map.mp h
      obtain ⟨_, c1, c2, _⟩ := mem_thirdsOf.mp hc
      have e' : op p.1 c = op p.1 p.2 := by rw [e, opr_lt h1]
      exact c2 (opr_eq (Ne.symm c1) (by omega) e')
    · unfold List.Nodup
      rw [List.pairwise_map]
      refine List.Pairwise.imp_of_mem (fun {a b} ha hb h e => h ?_) hN
      obtain ⟨_, c1, _⟩ := mem_thirdsOf.mp ha
      obtain ⟨_, d1, _⟩ := mem_thirdsOf.mp hb
      exact opr_eq (Ne.symm c1) (Ne.symm d1) e
  have z := nd.length_le_of_subset (l₂ := openOf n L) fun q hq => ?_
  · simpa using z
  · rcases List.mem_cons.mp hq with rfl | hq
    · exact hp
    · obtain ⟨c, hc, rfl⟩ := List.mem_map.mp hq
      obtain ⟨c0, c1, c2, c3, c4⟩ := mem_thirdsOf.mp hc
      refine mem_openOf.mpr ⟨?_, c3⟩
      rcases Nat.lt_or_gt_of_ne c1 with h | h
      · rw [opr_gt h]
        show c < p.1 ∧ p.1 < n
        omega
      · rw [opr_lt h]
        show p.1 < c ∧ c < n
        omega
/-- the pairs of the new three, in the order in which they stand -/
theorem tri_pairs {p : Pr} {c : Nat} (h : p.1 < p.2) (h1 : c ≠ p.1) (h2 : c ≠ p.2) : ∀ q, q ∈ pairsOf (tri p c) ↔ q = p ∨ q = op p.1 c ∨ q = op p.2 c := by
  intro q
  obtain ⟨a, b⟩ := p
  have h' : a < b := h
  have h1' : c ≠ a := h1
  have h2' : c ≠ b := h2
  unfold tri pairsOf
  show _ ↔ q = (a, b) ∨ q = op a c ∨ q = op b c
  by_cases c1 : c < a
  · rw [if_pos c1, opr_gt c1, opr_gt (show c < b by omega)]
    simp only [List.mem_cons, List.not_mem_nil, or_false]
    constructor <;> rintro (h | h | h) <;> simp [h]
  · rw [if_neg c1, opr_lt (show a < c by omega)]
    by_cases c2 : c < b
    · rw [if_pos c2, opr_gt c2]
      simp only [List.mem_cons, List.not_mem_nil, or_false]
      constructor <;> rintro (h | h | h) <;> simp [h]
    · rw [if_neg c2, opr_lt (show b < c by omega)]
      simp only [List.mem_cons, List.not_mem_nil, or_false]
theorem tri_ok {n : Nat} {p : Pr} {c : Nat} (h : p.1 < p.2) (hn : p.2 < n) (h1 : c ≠ p.1) (h2 : c ≠ p.2) (h3 : c < n) : okT n (tri p c) := by
  unfold okT tri
  split
  · refine ⟨?_, ?_, ?_⟩ <;> assumption
  · split
    · show p.1 < c ∧ c < p.2 ∧ p.2 < n
      omega
    · show p.1 < p.2 ∧ p.2 < c ∧ c < n
      omega
theorem pairsOf_nodup {n : Nat} {t : Tri} (h : okT n t) : (pairsOf t).Nodup := by
  obtain ⟨a, b, c⟩ := t
  have h' : a < b ∧ b < c ∧ c < n := h
  unfold pairsOf
  simp only [List.nodup_cons, List.mem_cons, List.not_mem_nil, or_false, not_or, Prod.mk.injEq, not_false_eq_true, List.nodup_nil, and_true]
  omega
theorem nodup_put {n : Nat} {T : List Tri} {t : Tri} (S : Sys n T) (h : okT n t) (hq : ∀ q ∈ pairsOf t, q ∉ hl T) : Sys n (T ++ [t]) := by
  refine ⟨fun u hu => ?_, ?_⟩
  · rcases List.mem_append.mp hu with hu | hu
    · exact S.ok u hu
    · rw [List.mem_singleton.mp hu]
      exact h
  · rw [hl_append, hl_one]
    refine List.nodup_append.mpr ⟨S.nd, pairsOf_nodup h, fun a ha b hb e => ?_⟩
    subst e
    exact hq a hb ha
theorem sys_put {n : Nat} {T : List Tri} {p : Pr} {c : Nat} (S : Sys n T) (hp : p ∈ openOf n (hl T)) (hc : c ∈ thirdsOf n (hl T) p) : Sys n (T ++ [tri p c]) := by
  obtain ⟨⟨h1, h2⟩, h3⟩ := mem_openOf.mp hp
  obtain ⟨c0, c1, c2, c3, c4⟩ := mem_thirdsOf.mp hc
  refine nodup_put S (tri_ok h1 h2 c1 c2 c0) fun q hq => ?_
  rcases (tri_pairs h1 c1 c2 q).mp hq with rfl | rfl | rfl
  · exact h3
  · exact c3
  · exact c4
theorem open_put {n : Nat} {T : List Tri} {p : Pr} {c : Nat} (S : Sys n T) (hp : p ∈ openOf n (hl T)) (hc : c ∈ thirdsOf n (hl T) p) : (openOf n (hl (T ++ [tri p c]))).length + 3 = (openOf n (hl T)).length := by
  have h1 := open_len S
  have h2 := open_len (sys_put S hp hc)
  rw [List.length_append, List.length_singleton] at h2
  omega

/-! ### a whole system above -/
/-- two threes of a system that have a pair in common are one -/
theorem Sys.same {n : Nat} : ∀ {T : List Tri}, Sys n T → ∀ {t u : Tri} {p : Pr}, t ∈ T → u ∈ T → p ∈ pairsOf t → p ∈ pairsOf u → t = u
  | [], _, _, _, _, h, _, _, _ => nomatch h
  | x :: T, S, t, u, p, ht, hu, hp, hq => by
    have nd : (pairsOf x ++ hl T).Nodup := S.nd
    obtain ⟨_, n2, n3⟩ := List.nodup_append.mp nd
    have S' : Sys n T := ⟨fun y hy => S.ok y (List.mem_cons_of_mem _ hy), n2⟩
    rcases List.mem_cons.mp ht with rfl | ht2
    · rcases List.mem_cons.mp hu with rfl | hu
      · rfl
      · exact absurd rfl (n3 p hp p (mem_hl.mpr ⟨u, hu, hq⟩))
    · rcases List.mem_cons.mp hu with e | hu
      · subst e
        exact absurd rfl (n3 p hq p (mem_hl.mpr ⟨t, ht2, hp⟩))
      · exact S'.same ht2 hu hp hq
theorem Sys.nodup {n : Nat} {T : List Tri} (S : Sys n T) : T.Nodup := by
  induction T with
  | nil => exact List.nodup_nil
  | cons x T ih =>
    have nd : (pairsOf x ++ hl T).Nodup := S.nd
    obtain ⟨_, n2, n3⟩ := List.nodup_append.mp nd
    refine List.nodup_cons.mpr ⟨fun h => ?_, ih ⟨fun y hy => S.ok y (List.mem_cons_of_mem _ hy), n2⟩⟩
    exact absurd rfl (n3 (x.1, x.2.1) List.mem_cons_self (x.1, x.2.1) (mem_hl.mpr ⟨x, h, List.mem_cons_self⟩))
/-- the three of a whole system with an open pair of a part of it -/
theorem third_in {n : Nat} {T W : List Tri} {p : Pr} (w : Whole n W) (hs : ∀ t ∈ T, t ∈ W) (hp : p ∈ openOf n (hl T)) : ∃ c ∈ thirdsOf n (hl T) p, tri p c ∈ W := by
  obtain ⟨⟨h1, h2⟩, h3⟩ := mem_openOf.mp hp
  obtain ⟨t, ht, hq⟩ := mem_hl.mp (w.all p (mem_allPairs.mpr ⟨h1, h2⟩))
  have o := w.ok t ht
  have free : ∀ q ∈ pairsOf t, q ∉ hl T := fun q hq2 h => by
    obtain ⟨u, hu, hqu⟩ := mem_hl.mp h
    have e := w.toSys.same ht (hs u hu) hq2 hqu
    rw [← e] at hu
    exact h3 (mem_hl.mpr ⟨t, hu, hq⟩)
  obtain ⟨x, y, z⟩ := t
  have o' : x < y ∧ y < z ∧ z < n := o
  have fr : (x, y) ∉ hl T ∧ (x, z) ∉ hl T ∧ (y, z) ∉ hl T := ⟨free _ (by simp [pairsOf]), free _ (by simp [pairsOf]), free _ (by simp [pairsOf])⟩
  unfold pairsOf at hq
  simp only [List.mem_cons, List.not_mem_nil, or_false] at hq
  rcases hq with rfl | rfl | rfl
  · refine ⟨z, mem_thirdsOf.mpr ⟨by omega, by show z ≠ x; omega, by show z ≠ y; omega, ?_, ?_⟩, ?_⟩
    · show op x z ∉ _
      rw [opr_lt (by omega)]; exact fr.2.1
    · show op y z ∉ _
      rw [opr_lt (by omega)]; exact fr.2.2
    · unfold tri
      rw [if_neg (by show ¬ z < x; omega), if_neg (by show ¬ z < y; omega)]; exact ht
  · refine ⟨y, mem_thirdsOf.mpr ⟨by omega, by show y ≠ x; omega, by show y ≠ z; omega, ?_, ?_⟩, ?_⟩
    · show op x y ∉ _
      rw [opr_lt (by omega)]; exact fr.1
    · show op z y ∉ _
      rw [opr_gt (by omega)]; exact fr.2.2
    · unfold tri
      rw [if_neg (by show ¬ y < x; omega), if_pos (by show y < z; omega)]; exact ht
  · refine ⟨x, mem_thirdsOf.mpr ⟨by omega, by show x ≠ y; omega, by show x ≠ z; omega, ?_, ?_⟩, ?_⟩
    · show op y x ∉ _
      rw [opr_gt (by omega)]; exact fr.1
    · show op z x ∉ _
      rw [opr_gt (by omega)]; exact fr.2.1
    · unfold tri
      rw [if_pos (by show x < y; omega)]; exact ht
theorem sub_put {T W : List Tri} {t : Tri} (hs : ∀ u ∈ T, u ∈ W) (ht : t ∈ W) : ∀ u ∈ T ++ [t], u ∈ W := fun u hu => by
  rcases List.mem_append.mp hu with hu | hu
  · exact hs u hu
  · rw [List.mem_singleton.mp hu]
    exact ht
theorem whole_of {n : Nat} {T : List Tri} (S : Sys n T) (h : openOf n (hl T) = []) : Whole n T := ⟨S, fun p hp => by
  by_cases c : p ∈ hl T
  · exact c
  · have z : p ∈ openOf n (hl T) := mem_openOf.mpr ⟨mem_allPairs.mp hp, c⟩
    rw [h] at z
    exact nomatch z⟩
theorem Whole.open {n : Nat} {W : List Tri} (w : Whole n W) : openOf n (hl W) = [] := by
  refine List.eq_nil_iff_forall_not_mem.mpr fun p hp => ?_
  obtain ⟨h1, h2⟩ := mem_openOf.mp hp
  exact h2 (w.all p (mem_allPairs.mpr h1))
theorem whole_eq {n : Nat} {T W : List Tri} (t : Whole n T) (w : Whole n W) (hs : ∀ u ∈ T, u ∈ W) : T.Perm W := by
  refine (List.perm_ext_iff_of_nodup t.nodup w.nodup).mpr fun u => ⟨hs u, fun hu => ?_⟩
  have o := w.ok u hu
  have hp : (u.1, u.2.1) ∈ pairsOf u := List.mem_cons_self
  obtain ⟨v, hv, hq⟩ := mem_hl.mp (t.all (u.1, u.2.1) (mem_allPairs.mpr (w.sub _ (mem_hl.mpr ⟨u, hu, hp⟩))))
  rw [w.toSys.same hu (hs v hv) hp hq]
  exact hv
theorem Whole.perm {n : Nat} {T W : List Tri} (w : Whole n W) (h : W.Perm T) : Whole n T :=
  ⟨⟨fun t ht => w.ok t (h.mem_iff.mpr ht), (h.flatMap_right pairsOf).nodup w.nd⟩, fun p hp => by
    obtain ⟨t, ht, hq⟩ := mem_hl.mp (w.all p hp)
    exact mem_hl.mpr ⟨t, h.mem_iff.mp ht, hq⟩⟩
theorem Sys.perm {n : Nat} {T W : List Tri} (w : Sys n W) (h : W.Perm T) : Sys n T :=
  ⟨fun t ht => w.ok t (h.mem_iff.mpr ht), (h.flatMap_right pairsOf).nodup w.nd⟩
end K30
end

section
/-! Completions in their order; bounds; parity. -/
namespace K30
theorem leT_trans {a b c : Tri} (h : leT a b) (h2 : leT b c) : leT a c := by
  unfold leT at *
  omega
theorem leT_total (a b : Tri) : leT a b ∨ leT b a := by
  unfold leT
  omega
theorem leT_anti {a b : Tri} (h : leT a b) (h2 : leT b a) : a = b := by
  obtain ⟨a1, a2, a3⟩ := a
  obtain ⟨b1, b2, b3⟩ := b
  unfold leT at *
  simp only [Prod.mk.injEq]
  simp only at h h2
  omega
theorem ltT_of {a b : Tri} (h : leT a b) (h2 : a ≠ b) : ltT a b := by
  obtain ⟨a1, a2, a3⟩ := a
  obtain ⟨b1, b2, b3⟩ := b
  simp only [ne_eq, Prod.mk.injEq] at h2
  unfold leT at *
  unfold ltT
  simp only at h ⊢
  omega
theorem ltT_le {a b : Tri} (h : ltT a b) : leT a b := by
  unfold leT
  unfold ltT at h
  omega
theorem ltT_asymm {a b : Tri} (h : ltT a b) (h2 : ltT b a) : False := by
  unfold ltT at *
  omega
theorem ltT_trans {a b c : Tri} (h : ltT a b) (h2 : ltT b c) : ltT a c := by
  unfold ltT at *
  omega
def sortT (l : List Tri) : List Tri := l.mergeSort fun a b => decide (leT a b)
theorem sortT_perm (l : List Tri) : (sortT l).Perm l := List.mergeSort_perm ..
theorem sortT_sorted (l : List Tri) : (sortT l).Pairwise leT := by
  have h := List.pairwise_mergeSort (le := fun a b : Tri => decide (leT a b)) (fun a b c h1 h2 => decide_eq_true (leT_trans (of_decide_eq_true h1) (of_decide_eq_true h2)))
    (fun a b => by
      rcases leT_total a b with h | h
      · simp [h]
      · simp [h]) l
  exact h.imp fun h => of_decide_eq_true h
theorem sort_unique {l m : List Tri} (h : l.Perm m) (hl : l.Pairwise leT) (hm : m.Pairwise leT) : l = m :=
  h.eq_of_pairwise (le := leT) (fun _ _ _ _ h1 h2 => leT_anti h1 h2) hl hm
theorem sortT_eq {l m : List Tri} (h : m.Perm l) (hm : m.Pairwise leT) : sortT l = m := sort_unique ((sortT_perm l).trans h.symm) (sortT_sorted l) hm
theorem sortT_self {l : List Tri} (h : l.Pairwise leT) : sortT l = l := sortT_eq (.refl _) h
theorem strict {l : List Tri} (h : l.Pairwise leT) (hn : l.Nodup) : l.Pairwise ltT := (List.Pairwise.and h hn).imp fun ⟨a, b⟩ => ltT_of a b

/-- x > y of two lists -/
def gtL : List Tri → List Tri → Bool
  | [], _ => false
  | _ :: _, [] => true
  | a :: x, b :: y => if a = b then gtL x y else decide (ltT b a)
theorem gtL_self : ∀ l : List Tri, gtL l l = false
  | [] => rfl
  | a :: l => by
    show (if a = a then gtL l l else decide (ltT a a)) = false
    rw [if_pos rfl]
    exact gtL_self l
theorem lex_le : ∀ {A B : List Tri} {x z : Tri}, A.Pairwise ltT → B.Pairwise ltT → x ∈ A → x ∉ B → z ∈ B → ltT x z → (∀ y, ltT y x → (y ∈ A ↔ y ∈ B)) → gtL A B = false
  | [], _, _, _, _, _, hx, _, _, _, _ => nomatch hx
  | _ :: _, [], _, _, _, _, _, _, hz, _, _ => nomatch hz
  | a :: A, b :: B, x, z, hA, hB, hx, hxB, hz, hxz, hy => by
    obtain ⟨a1, a2⟩ := List.pairwise_cons.mp hA
    obtain ⟨b1, b2⟩ := List.pairwise_cons.mp hB
    show (if a = b then gtL A B else decide (ltT b a)) = false
    by_cases e : a = b
    · rw [if_pos e]
      subst e
      have xa : x ≠ a := fun q => hxB (by rw [q]; exact List.mem_cons_self)
      have hxA : x ∈ A := (List.mem_cons.mp hx).resolve_left xa
      have hzB : z ∈ B := by
        rcases List.mem_cons.mp hz with q | q
        · exact (ltT_asymm (a1 x hxA) (by rw [← q]; exact hxz)).elim
        · exact q
      refine lex_le a2 b2 hxA (fun q => hxB (List.mem_cons_of_mem _ q)) hzB hxz fun y hlt => ⟨fun h => ?_, fun h => ?_⟩
      · exact (List.mem_cons.mp ((hy y hlt).mp (List.mem_cons_of_mem _ h))).resolve_left (Ne.symm (ltT_ne (a1 y h)))
      · exact (List.mem_cons.mp ((hy y hlt).mpr (List.mem_cons_of_mem _ h))).resolve_left (Ne.symm (ltT_ne (b1 y h)))
    · rw [if_neg e]
      refine decide_eq_false fun hlt => ?_
      have hbx : ltT b x := by
        rcases List.mem_cons.mp hx with q | q
        · rw [q]; exact hlt
        · exact ltT_trans hlt (a1 x q)
      rcases List.mem_cons.mp ((hy b hbx).mpr List.mem_cons_self) with q | q
      · exact e q.symm
      · exact ltT_asymm hlt (a1 b q)

/-! ### all completions, in the order of the search -/
def comps (n : Nat) : Nat → List Tri → List (List Tri)
  | 0, T => if openOf n (hl T) = [] then [sortT T] else []
  | d + 1, T => match openOf n (hl T) with
    | [] => [sortT T]
    | p :: _ => (thirdsOf n (hl T) p).flatMap fun c => comps n d (T ++ [tri p c])
theorem comps_nil {n d : Nat} {T : List Tri} (h : openOf n (hl T) = []) : comps n d T = [sortT T] := by
  cases d with
  | zero =>
    unfold comps
    rw [if_pos h]
  | succ d =>
    unfold comps
    rw [h]
theorem comps_cons {n d : Nat} {T : List Tri} {p : Pr} {r : List Pr} (h : openOf n (hl T) = p :: r) : comps n (d + 1) T = (thirdsOf n (hl T) p).flatMap fun c => comps n d (T ++ [tri p c]) := by
  rw [comps, h]
theorem comps_sound {n : Nat} : ∀ {d : Nat} {T w : List Tri}, Sys n T → w ∈ comps n d T → (∃ R, (T ++ R).Perm w) ∧ w.Pairwise leT ∧ Whole n w := by
  intro d
  induction d with
  | zero =>
    intro T w S h
    unfold comps at h
    split at h
    · rename_i e
      rw [List.mem_singleton.mp h]
      exact ⟨⟨[], by rw [List.append_nil]; exact (sortT_perm T).symm⟩, sortT_sorted T, (whole_of S e).perm (sortT_perm T).symm⟩
    · exact nomatch h
  | succ d ih =>
    intro T w S h
    cases e : openOf n (hl T) with
    | nil =>
      rw [comps_nil e] at h
      rw [List.mem_singleton.mp h]
      exact ⟨⟨[], by rw [List.append_nil]; exact (sortT_perm T).symm⟩, sortT_sorted T, (whole_of S e).perm (sortT_perm T).symm⟩
    | cons p r =>
      rw [comps_cons e] at h
      obtain ⟨c, hc, hw⟩ := List.mem_flatMap.mp h
      have hp : p ∈ openOf n (hl T) := by rw [e]; exact List.mem_cons_self
      obtain ⟨⟨R, hR⟩, h2, h3⟩ := ih (sys_put S hp hc) hw
      exact ⟨⟨[tri p c] ++ R, by rw [← List.append_assoc]; exact hR⟩, h2, h3⟩
theorem comps_complete {n : Nat} : ∀ {d : Nat} {T W : List Tri}, Sys n T → Whole n W → (∀ t ∈ T, t ∈ W) → (openOf n (hl T)).length ≤ 3 * d → sortT W ∈ comps n d T := by
  intro d
  induction d with
  | zero =>
    intro T W S w hs hl0
    have e : openOf n (hl T) = [] := List.eq_nil_of_length_eq_zero (by omega)
    rw [comps_nil e, List.mem_singleton]
    exact sortT_eq ((sortT_perm T).trans (whole_eq (whole_of S e) w hs)) (sortT_sorted T)
  | succ d ih =>
    intro T W S w hs hl0
    cases e : openOf n (hl T) with
    | nil =>
      rw [comps_nil e, List.mem_singleton]
      exact sortT_eq ((sortT_perm T).trans (whole_eq (whole_of S e) w hs)) (sortT_sorted T)
    | cons p r =>
      have hp : p ∈ openOf n (hl T) := by rw [e]; exact List.mem_cons_self
      obtain ⟨c, hc, ht⟩ := third_in w hs hp
      rw [comps_cons e]
      refine List.mem_flatMap.mpr ⟨c, hc, ih (sys_put S hp hc) w (sub_put hs ht) ?_⟩
      have := open_put S hp hc
      omega
/-- behind the first open pair -/
theorem open_head {n : Nat} {L : List Pr} {p : Pr} {r : List Pr} (e : openOf n L = p :: r) {q : Pr} (hq : q ∈ openOf n L) : q = p ∨ ltP p q := by
  have h := openOf_sorted n L
  rw [e] at h hq
  rcases List.mem_cons.mp hq with h1 | h1
  · exact .inl h1
  · exact .inr ((List.pairwise_cons.mp h).1 q h1)
theorem third_gt {n : Nat} {L : List Pr} {p : Pr} {r : List Pr} {c : Nat} (e : openOf n L = p :: r) (hc : c ∈ thirdsOf n L p) : p.2 < c := by
  have hp : p ∈ openOf n L := by rw [e]; exact List.mem_cons_self
  obtain ⟨⟨h1, h2⟩, h3⟩ := mem_openOf.mp hp
  obtain ⟨c0, c1, c2, c3, c4⟩ := mem_thirdsOf.mp hc
  have hq : op p.1 c ∈ openOf n L := by
    refine mem_openOf.mpr ⟨?_, c3⟩
    unfold op
    show min p.1 c < max p.1 c ∧ max p.1 c < n
    omega
  have ne : p ≠ op p.1 c := fun q => by
    have q2 : op p.1 p.2 = op p.1 c := by rw [opr_lt h1]; exact q
    exact c2 (opr_eq (by omega) (Ne.symm c1) q2).symm
  rcases open_head e hq with h | h
  · exact absurd h.symm ne
  · unfold ltP op at h
    simp only at h
    omega
theorem tri_gt {p : Pr} {c : Nat} (h : p.1 < p.2) (hc : p.2 < c) : tri p c = (p.1, p.2, c) := by
  unfold tri
  rw [if_neg (by omega), if_neg (by omega)]
/-- what is less than the first new three stood there already -/
theorem low_in {n : Nat} {T A : List Tri} {p : Pr} {r : List Pr} {c : Nat} {y : Tri} (e : openOf n (hl T) = p :: r) (w : Whole n A) (hs : ∀ t ∈ T, t ∈ A) (ht : (p.1, p.2, c) ∈ A) (hy : y ∈ A) (hlt : ltT y (p.1, p.2, c)) : y ∈ T := by
  by_cases hT : y ∈ T
  · exact hT
  · exfalso
    have o := w.ok y hy
    have hp1 : (y.1, y.2.1) ∈ pairsOf y := List.mem_cons_self
    have hq : (y.1, y.2.1) ∈ openOf n (hl T) := by
      refine mem_openOf.mpr ⟨w.sub _ (mem_hl.mpr ⟨y, hy, hp1⟩), fun h => ?_⟩
      obtain ⟨u, hu, hpu⟩ := mem_hl.mp h
      rw [w.toSys.same hy (hs u hu) hp1 hpu] at hT
      exact hT hu
    rcases open_head e hq with h | h
    · have q : y = (p.1, p.2, c) := w.toSys.same hy ht hp1 (by rw [h]; exact List.mem_cons_self)
      exact ltT_ne hlt q
    · unfold ltP at h
      unfold ltT at hlt
      simp only at h hlt
      omega
theorem comps_order {n : Nat} : ∀ {d : Nat} {T : List Tri}, Sys n T → (comps n d T).Pairwise fun A B => gtL A B = false := by
  intro d
  induction d with
  | zero =>
    intro T S
    unfold comps
    split
    · exact List.pairwise_singleton ..
    · exact .nil
  | succ d ih =>
    intro T S
    cases e : openOf n (hl T) with
    | nil =>
      rw [comps_nil e]
      exact List.pairwise_singleton ..
    | cons p r =>
      have hp : p ∈ openOf n (hl T) := by rw [e]; exact List.mem_cons_self
      have h12 : p.1 < p.2 := (mem_openOf.mp hp).1.1
      rw [comps_cons e, List.pairwise_flatMap]
      refine ⟨fun c hc => ih (sys_put S hp hc), ?_⟩
      have hst : (thirdsOf n (hl T) p).Pairwise (· < ·) := (List.pairwise_lt_range (n := n)).filter _
      refine List.Pairwise.imp_of_mem (fun {c c'} hc hc' hlt A hA B hB => ?_) hst
      have g := third_gt e hc
      have g' := third_gt e hc'
      rw [tri_gt h12 g] at hA
      rw [tri_gt h12 g'] at hB
      have S1 := sys_put S hp hc
      have S2 := sys_put S hp hc'
      rw [tri_gt h12 g] at S1
      rw [tri_gt h12 g'] at S2
      obtain ⟨⟨R, hR⟩, sA, wA⟩ := comps_sound S1 hA
      obtain ⟨⟨R', hR'⟩, sB, wB⟩ := comps_sound S2 hB
      have inA : ∀ t ∈ T, t ∈ A := fun t ht => hR.mem_iff.mp (List.mem_append_left _ (List.mem_append_left _ ht))
      have inB : ∀ t ∈ T, t ∈ B := fun t ht => hR'.mem_iff.mp (List.mem_append_left _ (List.mem_append_left _ ht))
      have tA : (p.1, p.2, c) ∈ A := hR.mem_iff.mp (List.mem_append_left _ (List.mem_append_right _ List.mem_cons_self))
      have tB : (p.1, p.2, c') ∈ B := hR'.mem_iff.mp (List.mem_append_left _ (List.mem_append_right _ List.mem_cons_self))
      have lt12 : ltT (p.1, p.2, c) (p.1, p.2, c') := .inr ⟨rfl, .inr ⟨rfl, hlt⟩⟩
      refine lex_le (strict sA wA.nodup) (strict sB wB.nodup) tA (fun q => ?_) tB lt12 fun y hy => ⟨fun h => inB y (low_in e wA inA tA h hy), fun h => inA y (low_in e wB inB tB h (ltT_trans hy lt12))⟩
      have z := wB.toSys.same (p := p) q tB List.mem_cons_self List.mem_cons_self
      exact ltT_ne lt12 z

/-! ### how many are tried -/
def tries : Nat → Nat
  | 0 => 0
  | d + 1 => (3 * d + 2) * (1 + tries d)
theorem tries5 : tries 5 = 19880 := by decide
def notes : Nat → Nat
  | 0 => 0
  | d + 1 => 1 + (3 * d + 2) * notes d
theorem notes5 : notes 5 = 7561 := by decide
theorem thirds_le {n d : Nat} {L : List Pr} {p : Pr} (hp : p ∈ openOf n L) (h : (openOf n L).length ≤ 3 * (d + 1)) : (thirdsOf n L p).length ≤ 3 * d + 2 := by
  have := thirds_len hp
  omega

/-! ### what the law asks of the completions -/
theorem hl_sub {L W : List Tri} (h : L.Sublist W) : (hl L).Sublist (hl W) := by
  induction h with
  | slnil => exact .slnil
  | cons a _ ih => exact ih.trans (List.sublist_append_right _ _)
  | cons_cons a _ ih => exact (List.Sublist.refl (pairsOf a)).append ih
theorem left_sys {n : Nat} {W L : List Tri} (w : Sys n W) (h : L.Sublist W) : Sys n L :=
  ⟨fun t ht => w.ok t (h.subset ht), (hl_sub h).nodup w.nd⟩
theorem left_open {n : Nat} {W L : List Tri} (w : Whole n W) (h : L.Sublist W) : (openOf n (hl L)).length = 3 * (W.length - L.length) := by
  have h1 := open_len w.toSys
  have h2 := open_len (left_sys w.toSys h)
  have h3 := h.length_le
  rw [w.open] at h1
  simp only [List.length_nil] at h1
  omega
theorem first_of {n d : Nat} {W L : List Tri} (w : Whole n W) (hs : W.Pairwise leT) (h : L.Sublist W) (hd : W.length ≤ L.length + d) :
    ∃ v r, comps n d L = v :: r ∧ gtL v W = false ∧ Whole n v ∧ v.Pairwise leT ∧ (∀ t ∈ L, t ∈ v) := by
  have S := left_sys w.toSys h
  have hm := comps_complete (d := d) S w (fun t ht => h.subset ht) (by rw [left_open w h]; omega)
  rw [sortT_self hs] at hm
  cases e : comps n d L with
  | nil =>
    rw [e] at hm
    exact nomatch hm
  | cons v r =>
    have hv : v ∈ comps n d L := by rw [e]; exact List.mem_cons_self
    obtain ⟨⟨R, hR⟩, h2, h3⟩ := comps_sound S hv
    refine ⟨v, r, rfl, ?_, h3, h2, fun t ht => hR.mem_iff.mp (List.mem_append_left _ ht)⟩
    have o := comps_order (d := d) S
    rw [e] at o hm
    rcases List.mem_cons.mp hm with q | q
    · rw [← q]
      exact gtL_self W
    · exact (List.pairwise_cons.mp o).1 W q
theorem comps_whole {n d : Nat} {W : List Tri} (w : Whole n W) (hs : W.Pairwise leT) : comps n d W = [W] := by
  rw [comps_nil w.open, sortT_self hs]

/-! ### parity -/
def has (x : Nat) (p : Pr) : Bool := decide (p.1 = x ∨ p.2 = x)
theorem pairs_even {n : Nat} {t : Tri} (h : okT n t) (x : Nat) : (pairsOf t).countP (has x) % 2 = 0 := by
  obtain ⟨a, b, c⟩ := t
  have h' : a < b ∧ b < c ∧ c < n := h
  unfold pairsOf
  simp only [List.countP_cons, List.countP_nil, has, decide_eq_true_eq]
  by_cases ea : a = x <;> by_cases eb : b = x <;> by_cases ec : c = x <;> first | (exfalso; omega) | simp [ea, eb, ec]
theorem hl_even {n : Nat} {T : List Tri} (h : ∀ t ∈ T, okT n t) (x : Nat) : (hl T).countP (has x) % 2 = 0 := by
  induction T with
  | nil => rfl
  | cons t T ih =>
    show (pairsOf t ++ hl T).countP (has x) % 2 = 0
    rw [List.countP_append]
    have h1 := pairs_even (h t List.mem_cons_self) x
    have h2 := ih fun u hu => h u (List.mem_cons_of_mem _ hu)
    omega
theorem open_even {n : Nat} {T : List Tri} (S : Sys n T) (hn : ∀ x < n, (allPairs n).countP (has x) % 2 = 0) {x : Nat} (hx : x < n) : (openOf n (hl T)).countP (has x) % 2 = 0 := by
  have h := (open_perm S.nd S.sub).countP_eq (has x)
  rw [List.countP_append] at h
  have h1 := hn x hx
  have h2 := hl_even S.ok x
  omega
theorem even7 : ∀ x < 7, (allPairs 7).countP (has x) % 2 = 0 := by decide +kernel
theorem even9 : ∀ x < 9, (allPairs 9).countP (has x) % 2 = 0 := by decide +kernel
theorem even13 : ∀ x < 13, (allPairs 13).countP (has x) % 2 = 0 := by decide +kernel
end K30
end

section
/-! Renaming, the systems that the law begins with. -/
namespace K30
def triL (t : Tri) : List Nat := [t.1, t.2.1, t.2.2]
/-- three points in order -/
def srt (t : Tri) : Tri := tri (op t.1 t.2.1) t.2.2
theorem srt_perm (t : Tri) : (triL (srt t)).Perm (triL t) := by
  obtain ⟨a, b, c⟩ := t
  unfold srt triL
  simp only
  rcases Nat.lt_or_ge b a with h | h
  · rw [opr_gt h]
    unfold tri
    simp only
    split
    · exact ((List.Perm.swap c b [a]).symm.trans (.cons b (.swap a c []))).trans (.swap a b [c]) |>.trans (.refl _)
    · split
      · exact (List.Perm.cons b (.swap a c [])).trans (.swap a b [c])
      · exact .swap a b [c]
  · have e : op a b = (a, b) := by
      rcases Nat.eq_or_lt_of_le h with q | q
      · subst q
        unfold op
        simp
      · exact opr_lt q
    rw [e]
    unfold tri
    simp only
    split
    · exact (List.Perm.swap a c [b]).trans (.cons a (.swap b c []))
    · split
      · exact .cons a (.swap b c [])
      · exact .refl _
theorem srt_sorted (t : Tri) : (triL (srt t)).Pairwise (· ≤ ·) := by
  obtain ⟨a, b, c⟩ := t
  unfold srt triL tri op
  simp only [List.pairwise_cons, List.mem_cons, List.not_mem_nil, or_false, forall_eq_or_imp, forall_eq, false_implies, implies_true, List.Pairwise.nil, and_true]
  split <;> (try split) <;> simp only <;> omega
theorem srt_unique {t : Tri} {l : List Nat} (h : l.Perm (triL t)) (hs : l.Pairwise (· ≤ ·)) : l = triL (srt t) :=
  (h.trans (srt_perm t).symm).eq_of_pairwise (le := (· ≤ ·)) (fun _ _ _ _ h1 h2 => Nat.le_antisymm h1 h2) hs (srt_sorted t)
theorem srt_ok {n : Nat} {t : Tri} (h : okT n t) : srt t = t := by
  obtain ⟨a, b, c⟩ := t
  have h' : a < b ∧ b < c ∧ c < n := h
  unfold srt
  rw [opr_lt (show a < b by omega)]
  exact tri_gt (by show a < b; omega) (by show b < c; omega)
/-- three different points below n, in whatever order -/
def dif (n : Nat) (t : Tri) : Prop := t.1 ≠ t.2.1 ∧ t.1 ≠ t.2.2 ∧ t.2.1 ≠ t.2.2 ∧ t.1 < n ∧ t.2.1 < n ∧ t.2.2 < n
instance (n : Nat) (t : Tri) : Decidable (dif n t) := by unfold dif; infer_instance
instance (n : Nat) (t : Tri) : Decidable (okT n t) := by unfold okT; infer_instance
theorem okT_dif {n : Nat} {t : Tri} (h : okT n t) : dif n t := by
  unfold okT at h
  unfold dif
  omega
theorem srt_dif {n : Nat} {t : Tri} (h : dif n t) : okT n (srt t) := by
  unfold dif at h
  unfold srt
  have h1 : (op t.1 t.2.1).1 < (op t.1 t.2.1).2 ∧ (op t.1 t.2.1).2 < n ∧ t.2.2 ≠ (op t.1 t.2.1).1 ∧ t.2.2 ≠ (op t.1 t.2.1).2 := by
    unfold op
    simp only
    omega
  exact tri_ok h1.1 h1.2.1 h1.2.2.1 h1.2.2.2 h.2.2.2.2.2
theorem srt_pairs {n : Nat} {t : Tri} (h : dif n t) : ∀ q, q ∈ pairsOf (srt t) ↔ q = op t.1 t.2.1 ∨ q = op t.1 t.2.2 ∨ q = op t.2.1 t.2.2 := by
  intro q
  unfold dif at h
  unfold srt
  have h1 : (op t.1 t.2.1).1 < (op t.1 t.2.1).2 ∧ t.2.2 ≠ (op t.1 t.2.1).1 ∧ t.2.2 ≠ (op t.1 t.2.1).2 := by
    unfold op
    simp only
    omega
  rw [tri_pairs h1.1 h1.2.1 h1.2.2]
  rcases Nat.lt_or_gt_of_ne h.1 with c | c
  · rw [opr_lt c]
  · rw [opr_gt c]
    constructor
    · rintro (e | e | e)
      · exact .inl e
      · exact .inr (.inr e)
      · exact .inr (.inl e)
    · rintro (e | e | e)
      · exact .inl e
      · exact .inr (.inr e)
      · exact .inr (.inl e)
theorem opr_comm (a b : Nat) : op a b = op b a := by
  unfold op
  rw [Nat.min_comm, Nat.max_comm]

/-! ### names -/
def nm (N : List Nat) (x : Nat) : Nat := N.getD x 0
def ren (N : List Nat) (t : Tri) : Tri := (nm N t.1, nm N t.2.1, nm N t.2.2)
structure Names (n : Nat) (N : List Nat) : Prop where
  perm : N.Perm (List.range n)
theorem Names.len {n : Nat} {N : List Nat} (h : Names n N) : N.length = n := by
  have := h.perm.length_eq
  rwa [List.length_range] at this
theorem Names.get {n : Nat} {N : List Nat} (h : Names n N) {x : Nat} (hx : x < n) : N[x]? = some (nm N x) := by
  have hl := h.len
  unfold nm
  rw [List.getD_eq_getElem?_getD, List.getElem?_eq_getElem (by omega)]
  rfl
theorem Names.lt {n : Nat} {N : List Nat} (h : Names n N) {x : Nat} (hx : x < n) : nm N x < n :=
  List.mem_range.mp (h.perm.mem_iff.mp (List.mem_of_getElem? (h.get hx)))
theorem Names.inj {n : Nat} {N : List Nat} (h : Names n N) {x y : Nat} (hx : x < n) (hy : y < n) (e : nm N x = nm N y) : x = y := by
  have nd : N.Nodup := h.perm.symm.nodup List.nodup_range
  have hl := h.len
  have h1 := h.get hx
  have h2 := h.get hy
  rw [e] at h1
  rw [List.getElem?_eq_getElem (by omega)] at h1 h2
  exact (List.getElem_inj nd).mp ((Option.some.inj h1).trans (Option.some.inj h2).symm)
theorem names_start (n : Nat) : Names n (List.range n) := ⟨.refl _⟩
theorem names_swap {n : Nat} {N : List Nat} (h : Names n N) {k j : Nat} (hk : k < n) (hj : j < n) : Names n ((N.set k (nm N j)).set j (nm N k)) := by
  have hl := h.len
  refine ⟨List.Perm.trans ?_ h.perm⟩
  have z := Array.swap_perm (xs := N.toArray) (i := k) (j := j) (by simpa [hl] using hk) (by simpa [hl] using hj)
  have z2 := z.toList
  rw [Array.toList_swap] at z2
  have e1 : N[j]'(by omega) = nm N j := by
    have := h.get hj
    rw [List.getElem?_eq_getElem (by omega)] at this
    exact Option.some.inj this
  have e2 : N[k]'(by omega) = nm N k := by
    have := h.get hk
    rw [List.getElem?_eq_getElem (by omega)] at this
    exact Option.some.inj this
  simp only [List.getElem_toArray, e1, e2] at z2
  exact z2
theorem ren_dif {n : Nat} {N : List Nat} (h : Names n N) {t : Tri} (d : dif n t) : dif n (ren N t) := by
  unfold dif at d
  obtain ⟨d1, d2, d3, d4, d5, d6⟩ := d
  exact ⟨fun e => d1 (h.inj d4 d5 e), fun e => d2 (h.inj d4 d6 e), fun e => d3 (h.inj d5 d6 e), h.lt d4, h.lt d5, h.lt d6⟩
def rp (N : List Nat) (p : Pr) : Pr := op (nm N p.1) (nm N p.2)
theorem rp_inj {n : Nat} {N : List Nat} (h : Names n N) {p q : Pr} (hp : p.1 < p.2 ∧ p.2 < n) (hq : q.1 < q.2 ∧ q.2 < n) (e : rp N p = rp N q) : p = q := by
  obtain ⟨a, b⟩ := p
  obtain ⟨c, d⟩ := q
  have hp' : a < b ∧ b < n := hp
  have hq' : c < d ∧ d < n := hq
  have e1 : min (nm N a) (nm N b) = min (nm N c) (nm N d) := congrArg Prod.fst e
  have e2 : max (nm N a) (nm N b) = max (nm N c) (nm N d) := congrArg Prod.snd e
  have key : (nm N a = nm N c ∧ nm N b = nm N d) ∨ (nm N a = nm N d ∧ nm N b = nm N c) := by omega
  rcases key with ⟨k1, k2⟩ | ⟨k1, k2⟩
  · have z1 := h.inj (show a < n by omega) (show c < n by omega) k1
    have z2 := h.inj (show b < n by omega) (show d < n by omega) k2
    rw [z1, z2]
  · have z1 := h.inj (show a < n by omega) (show d < n by omega) k1
    have z2 := h.inj (show b < n by omega) (show c < n by omega) k2
    omega
theorem ren_pairs {n : Nat} {N : List Nat} (h : Names n N) {t : Tri} (o : okT n t) : (pairsOf (srt (ren N t))).Perm ((pairsOf t).map (rp N)) := by
  have d := ren_dif h (okT_dif o)
  refine (List.perm_ext_iff_of_nodup (pairsOf_nodup (srt_dif d)) ?_).mpr fun q => ?_
  · unfold List.Nodup
    rw [List.pairwise_map]
    have S : Sys n [t] := ⟨fun u hu => by rw [List.mem_singleton.mp hu]; exact o, by rw [hl_one]; exact pairsOf_nodup o⟩
    have hs : ∀ p ∈ pairsOf t, p.1 < p.2 ∧ p.2 < n := fun p hp => S.sub p (by rw [hl_one]; exact hp)
    exact List.Pairwise.imp_of_mem (fun {a b} ha hb hne e => hne (rp_inj h (hs a ha) (hs b hb) e)) (pairsOf_nodup o)
  · rw [srt_pairs d]
    show _ ↔ q ∈ [rp N (t.1, t.2.1), rp N (t.1, t.2.2), rp N (t.2.1, t.2.2)]
    simp only [List.mem_cons, List.not_mem_nil, or_false]
    exact Iff.rfl
theorem ren_hl {n : Nat} {N : List Nat} (h : Names n N) : ∀ {T : List Tri}, (∀ t ∈ T, okT n t) → (hl (T.map fun t => srt (ren N t))).Perm ((hl T).map (rp N))
  | [], _ => .refl _
  | t :: T, o => by
    show (pairsOf (srt (ren N t)) ++ hl (T.map fun t => srt (ren N t))).Perm ((pairsOf t ++ hl T).map (rp N))
    rw [List.map_append]
    exact (ren_pairs h (o t List.mem_cons_self)).append (ren_hl h fun u hu => o u (List.mem_cons_of_mem _ hu))
theorem whole_ren {n : Nat} {N : List Nat} {B : List Tri} (h : Names n N) (w : Whole n B) : Whole n (B.map fun t => srt (ren N t)) := by
  have S : Sys n (B.map fun t => srt (ren N t)) := by
    refine ⟨fun u hu => ?_, ?_⟩
    · obtain ⟨t, ht, rfl⟩ := List.mem_map.mp hu
      exact srt_dif (ren_dif h (okT_dif (w.ok t ht)))
    · refine (ren_hl h w.ok).symm.nodup ?_
      unfold List.Nodup
      rw [List.pairwise_map]
      exact List.Pairwise.imp_of_mem (fun {a b} ha hb hne e => hne (rp_inj h (w.sub a ha) (w.sub b hb) e)) w.nd
  have h1 := open_len w.toSys
  have h2 := open_len S
  rw [w.open] at h1
  rw [List.length_map] at h2
  simp only [List.length_nil] at h1
  exact whole_of S (List.eq_nil_of_length_eq_zero (by omega))

/-! ### the first systems -/
def base7 : List Tri := [(0, 1, 2), (0, 3, 4), (0, 5, 6), (1, 3, 5), (1, 4, 6), (2, 3, 6), (2, 4, 5)]
def base9 : List Tri := [(0, 1, 2), (3, 4, 5), (6, 7, 8), (0, 3, 6), (1, 4, 7), (2, 5, 8), (0, 4, 8), (1, 5, 6), (2, 3, 7), (0, 5, 7), (1, 3, 8), (2, 4, 6)]
/-- what _law_threes finds for 13 points, turn by turn -/
def sk3 (x y z : Nat) : List Tri := [(x, y, z + 4), (x + 4, y + 4, z + 8), (x + 8, y + 8, z)]
def skz (x y : Nat) : Nat := if (x + y) % 4 % 2 = 0 then (x + y) % 4 / 2 else 2 + (x + y) % 4 / 2
def skx (x : Nat) : List Tri := (if x < 2 then (x, x + 4, x + 8) :: [(12, 2 + x, x + 4), (12, 2 + x + 4, x + 8), (12, 2 + x + 8, x)] else []) ++ (List.range x).flatMap fun y => sk3 x y (skz x y)
def raw13 : List Tri := (List.range 4).flatMap skx
def base13 : List Tri := sortT (raw13.map srt)
theorem whole_dec {n : Nat} {T : List Tri} (h1 : (T.all fun t => decide (okT n t)) = true) (h2 : decide (hl T).Nodup = true) (h3 : ((allPairs n).all fun p => decide (p ∈ hl T)) = true) : Whole n T :=
  ⟨⟨fun t ht => of_decide_eq_true (List.all_eq_true.mp h1 t ht), of_decide_eq_true h2⟩, fun p hp => of_decide_eq_true (List.all_eq_true.mp h3 p hp)⟩
theorem whole7 : Whole 7 base7 := whole_dec (by decide +kernel) (by decide +kernel) (by decide +kernel)
theorem whole9 : Whole 9 base9 := whole_dec (by decide +kernel) (by decide +kernel) (by decide +kernel)
theorem raw13_dif : ∀ t ∈ raw13, dif 13 t := by decide +kernel
theorem raw13_len : raw13.length = 26 := by decide +kernel
theorem whole13 : Whole 13 base13 := Whole.perm (W := raw13.map srt) (whole_dec (by decide +kernel) (by decide +kernel) (by decide +kernel)) (sortT_perm _).symm
end K30
end

section
set_option Elab.async false
set_option linter.all false
set_option maxRecDepth 100000
/-! Rules of our own beside the hand layer's. -/
namespace L2
open PySem PySem.Spec PyProof.Rows

/-! ### a thing walked that is of one kind or another -/
theorem pi_or {X : Cx} {tg e : Expr} {w1 w2 : TI} (h1 : PI X tg e w1) (h2 : PI X tg e w2) : PI X tg e (fun σ H R => w1 σ H R ∨ w2 σ H R) :=
  ⟨fun pins s σ H R I h => h.elim (h1.run pins s σ H R I) (h2.run pins s σ H R I)⟩

/-! ### del d[k], the key a tuple -/
theorem KT_without {H : Hp} (k : List Key) {kvs : List (List Key × V)} {xs : List (List Key × Addr × Value)} (r : KT H kvs xs) : KT H (dropK kvs k) (withoutH xs k) := DX.KT_drop k r
def sDDelT (td ty : TE) : TS := fun D σ H => td σ H fun x H1 => ty σ H1 fun y H2 => ∃ (a b : Addr) (kvs : List (List Key × V)) (k : List Key), x = .ref a ∧ y = .ref b ∧ H2 a = some (.dT kvs) ∧ H2 b = some (.tup (k.map kV)) ∧ (valV kvs k).isSome = true ∧ D.nx σ (upd H2 a (.dT (dropK kvs k)))
section
variable {X : Cx} {o i : Expr} {td ty : TE} {pos tpos : Pos}
theorem d_delItemT {pins : List (Addr × Obj)} {σ : St} {H : Hp} {s : Shared} {a b : Addr} {kvs : List (List Key × V)} {k : List Key} {A : Around} {E : Value → Shared → Prop} {Q : Unit → Shared → Prop} (hu : A.units + 1 < cLine) (I : Inv X pins σ H s) (e : H a = some (.dT kvs))
    (eb : H b = some (.tup (k.map kV))) (l : (valV kvs k).isSome = true) (h : ∀ s', Inv X pins σ (upd H a (.dT (dropK kvs k))) s' → Q () s') : wpAny (model X.prog X.w) A (delItem (.ref a) (.ref b)) Q E s := by
  obtain ⟨z, hd, xs, rel, dd⟩ := dt_of I.hok e
  have hz : xs.length ≤ sizeLine := by rw [← Paired.length rel]; exact z
  have hl : (dropK kvs k).length ≤ sizeLine := Nat.le_trans (dropK_le kvs k) z
  have hs : ((atKey xs k).map (·.2)).isSome = true := by rw [← (rel.val k).isSome_eq]; exact l
  obtain ⟨p, hp⟩ : ∃ p, atKey xs k = some p := by
    cases q : atKey xs k with
    | none => rw [q] at hs; cases hs
    | some p => exact ⟨p, rfl⟩
  refine wpAny_delItem_heap (hsz := hz) (tupleKind_room_in1 hu) (key_of I.hok eb) hd dd hp fun h' dd' hs' => h _ ?_
  obtain ⟨q, es, ep, hq, h2, h3, h4, _, h5⟩ := dd'
  refine d_write I (by rw [e]; exact True.intro) hs' ⟨q, hq⟩ ⟨hl, hd, _, (KT_without k rel).keeps fun c ys ec => ?_, q, es, ep, hq, h2, h3, h4, h5⟩
  rw [upd_ne (ne_of ec e (fun z => nomatch z))]
  exact ec
theorem ps_ddelT (hu : X.A.units + 1 < cLine) (ho : PE X o td) (hi : PE X i ty) : PS X (.Delete [.Subscript o i tpos] pos) (sDDelT td ty) := by
  refine ⟨fun pins s σ H D I h => ?_⟩
  refine wpAny_Delete (wpAny_deleteEach_cons (wpAny_delete_Subscript (thn (ho.run pins s σ H _ I h) fun u s1 ⟨x, H1, I1, rx, q1⟩ => thn (hi.run pins s1 σ H1 _ I1 q1) fun iv s2 ⟨y, H2, I2, ry, a, b, kvs, k, ex, ey, e, eb, l, q2⟩ => ?_)))
  subst ex ey
  obtain rfl : u = Value.ref a := rx
  obtain rfl : iv = Value.ref b := ry
  exact d_delItemT hu I2 e eb l fun s3 I3 => wpAny_deleteEach_nil ⟨σ, _, I3, q2⟩
end

/-! ### d.values() walked, the keys of d tuples; d is locked from there on -/
def Itdt (d : Addr) (o : Obj) (kvs : List (List Key × V)) : It :=
  ⟨fun i H => H d = some (.frz o (.dT kvs)) ∧ i < kvs.length, fun i H x H' => H' = H ∧ ∃ k, kvs[i]? = some (k, x), fun i H => H d = some (.frz o (.dT kvs)) ∧ kvs.length ≤ i⟩
theorem Inv.frzTV {X : Cx} {pins : List (Addr × Obj)} {σ : St} {H : Hp} {s : Shared} {d : Addr} {o : Obj} {kvs : List (List Key × V)} (I : Inv X pins σ H s) (h : H d = some (.frz o (.dT kvs))) :
    (d == sysModules) = false ∧ s.heap.get? d = some o ∧ o.ExactDict ∧ ∃ (es : Array DictEntry) (ep : Nat), o.data = .dict es ep ∧ es.size = kvs.length ∧
      ∀ (i : Nat) (k : List Key) (v : V) (hi : i < es.size), kvs[i]? = some (k, v) → RelV v es[i].val := by
  obtain ⟨hd, z, hs, xs, pr, o', es, ep, ho, hx, hdt, he, _⟩ := I.hok d _ h
  rw [hd] at ho
  cases ho
  refine ⟨hs, hd, hx, es, ep, hdt, ?_, fun i k v hi e => ?_⟩
  · have l1 : es.size = xs.length := size_of_entries he
    have l2 : kvs.length = xs.length := Paired.length pr
    omega
  · obtain ⟨b, hb, e1, e2, e3⟩ := paired_get pr e
    have q := entry_at he i
    rw [hb, Array.getElem?_eq_getElem hi] at q
    have q2 := Option.some.inj q
    rw [q2]
    exact e3
section
variable {P : Program} {w : World} {K : PySem.W.Frag} {tg : Expr} {d : Addr} {o : Obj} {es : Array DictEntry} {ep : Nat}
theorem turn_valsT {kvs : List (List Key × V)} (it : Addr) (hod : o.data = .dict es ep) : Turn P w K tg (Itdt d o kvs) [it] it (fun i h => h.IsValIter it d i kvs.length ep) where
  mem := by simp
  obj := fun i h st b hb => by
    have e : b = it := by simpa using hb
    subst e
    obtain ⟨oi, e, c, dd⟩ := st
    exact ⟨oi, e, fun v z => by rw [dd] at z; cases z⟩
  keep := fun i h h' st k => st.at fun oi e => k it (by simp) oi e
  item := by
    intro X hP hw hK hc i pins s σ H E I hf st hg
    subst hP hw hK
    obtain ⟨hd, hi⟩ := hg
    obtain ⟨f0, f1, f2, f3, f4, f5⟩ := hf it (by simp)
    obtain ⟨hs, hgd, hx, es', ep', hdt, hsz, ent⟩ := I.frzTV hd
    obtain ⟨rfl, rfl⟩ := dict_ep hod hdt
    obtain ⟨⟨k, v⟩, hkv⟩ : ∃ p, kvs[i]? = some p := ⟨kvs[i], List.getElem?_eq_getElem hi⟩
    have hi2 : i < es'.size := by omega
    have hr := ent i k v hi2 hkv
    rw [← hsz] at st
    refine wpAny_pyNext_values_item_raw st ⟨_, hgd, hx, hdt⟩ hi2 fun h' st' sb => ?_
    have I1 : Inv X pins σ H { s with heap := h' } := I.turned (t' := s.toks) (fun b ob hb e => (sb.2 b hb).trans e) f0 f1 f3 f4 f5
    obtain ⟨oi, e, c, dd⟩ := id st'
    refine ⟨_, rfl, go_of (s := { s with heap := h' }) e c dd (by decide) ⟨v, H, I1, hr, ⟨rfl, k, hkv⟩, ?_, fun b hb => (hf b hb).1⟩⟩
    show h'.IsValIter it d (i + 1) kvs.length _
    rw [← hsz]
    exact st'
  done := by
    intro X hP hw hK hc i pins s σ H E I hf st hg
    subst hP hw hK
    obtain ⟨hd, hi⟩ := hg
    obtain ⟨f0, f1, f2, f3, f4, f5⟩ := hf it (by simp)
    obtain ⟨hs, hgd, hx, es', ep', hdt, hsz, ent⟩ := I.frzTV hd
    obtain ⟨rfl, rfl⟩ := dict_ep hod hdt
    rw [← hsz] at st
    exact wpAny_pyNext_values_end_raw (I.ok.hd hc) st ⟨_, hgd, hx, hdt⟩ (by omega) fun h' eb => ⟨rfl, I.turned (t' := s.toks) (fun b ob hb e => eb b ob hb e) f0 f1 f3 f4 f5⟩
  self := fun A i s Q E st h => wpAny_pyIter_valiter st h
end
def iValsT (td : TE) : TI := fun σ H R => td σ H fun x H1 => ∃ (d : Addr) (kvs : List (List Key × V)), x = .ref d ∧ H1 d = some (.dT kvs) ∧ ∀ o, R (Itdt d o kvs) (upd H1 d (.frz o (.dT kvs)))
section
variable {X : Cx} {tg e : Expr} {td : TE} {apos cpos : Pos}
theorem pi_valuesT (he : PE X e td) (hbase : attributeBase e "values" X.env (eval e X.env) = eval e X.env := by rfl) (hline : (apos.endLine == cpos.line) = true := by rfl) : PI X tg (.Call (.Attribute e "values" apos) [] [] cpos) (iValsT td) := by
  refine ⟨fun pins s σ H R I h => ?_⟩
  refine wpAny_Call_method (T := "dict") (id := "dict.values") hbase rfl hline F.plainAttrs_dict F.slot_dict_values F.type_dict_values (thn (he.run pins s σ H _ I h) fun u s1 ⟨x, H1, I1, rx, d, kvs, ex, hd0, q⟩ => ?_)
  subst ex
  obtain rfl : u = Value.ref d := rx
  obtain ⟨o, I1'⟩ := I1.lock hd0 (show Mut (some (HO.dT kvs)) from True.intro)
  have hd : upd H1 d (.frz o (.dT kvs)) d = some (.frz o (.dT kvs)) := upd_same
  obtain ⟨hs, hgd, hx, es, ep, hdt, hsz, ent⟩ := I1'.frzTV hd
  have raw : s1.heap.DictRaw d es ep := ⟨o, hgd, hx, hdt⟩
  refine ⟨⟨o, hgd, hx.1⟩, ?_, ?_⟩
  · intro a ea
    cases ea
    exact ⟨o, hgd, hx.2.1⟩
  have I2 : Inv X pins σ (upd H1 d (.frz o (.dT kvs))) { s1 with heap := s1.heap.push { cls := .type "dict_values", data := .fields #[.ref d] } } := I1'.kept (t' := s1.toks) fun b ob q => Heap.get?_push_of_some _ q
  have fin : wpAny (model X.prog X.w) X.A (pyIter (.ref s1.heap.objs.size)) (PIE X pins σ tg R) X.xe { s1 with heap := s1.heap.push { cls := .type "dict_values", data := .fields #[.ref d] } } := by
    refine wpAny_pyIter_values_raw (d := d) ⟨_, Heap.get?_push_size _ rfl, rfl, rfl⟩ (raw.at fun o e => Heap.get?_push_of_some _ e) (pi_one (tk := s1.toks) I2 _ (turn_valsT _ hdt) ⟨_, Heap.get?_push_size _ rfl, rfl, ?_⟩ (q o))
    rw [hsz] <;> rfl
  show wpAny _ _ (callWith cpos (.builtin "dict.values") [.ref d] [] []) _ X.xe s1
  exact method_meetsIn F.slot_dict_values F.entry_dict_values rfl (PySem.evalArgs_none ⟨rfl, raw.typeIs, F.args_dict_values_1 _, _, meets_dict_values_raw d hs, ⟨es, ep, raw⟩, fin⟩)
end

/-! ### xs[i] by values, for xs[i] += e -/
theorem get_list {X : Cx} : PGet X (fun x y H Q => ∃ (p : Addr) (xs : List V) (i : Nat) (v : V), x = .ref p ∧ y = .int (i : Nat) ∧ SqL X.K H p xs ∧ xs[i]? = some v ∧ Q v H) := by
  intro pins s σ H o i ov iv Q I ro ri h
  obtain ⟨p, xs, i, v, rfl, rfl, hq, he, q⟩ := h
  cases ro
  obtain ⟨t, rfl⟩ := ri
  obtain ⟨its, r, pl, hz⟩ := I.list hq
  obtain ⟨w, ew, rw'⟩ := r.get he
  have hl := r.length
  have hi : i < its.length := (List.getElem?_eq_some_iff.mp ew).1
  have hn := line63
  exact wpAny_getItem_list (k := (i : Int)) pl.isList (by omega) (by omega) (by simpa using ew) ⟨v, H, I, rw', q⟩

/-! ### a < b < c < d .. -/
/-- the rest of a chain, behind its left value y -/
abbrev TChn := V → St → Hp → VK → Prop
structure PCh (X : Cx) (ops : List CmpOp) (es : List Expr) (t : TChn) : Prop where
  run : ∀ (pos : Pos) (pins : List (Addr × Obj)) (s : Shared) (σ : St) (H : Hp) (y : V) (u : Value) (Q : VK), Inv X pins σ H s → RelV y u → t y σ H Q →
    wpAny (model X.prog X.w) X.A (compareChain pos u ops (evalEach es X.env)) (EP X pins σ Q) X.xe s
section
variable {X : Cx} {a b c : Expr} {ta tb : TE} {r : R2} {op op' : CmpOp} {ops : List CmpOp} {es : List Expr} {t : TChn} {pos : Pos}
def tCh1 (r : R2) (tb : TE) : TChn := fun y σ H Q => tb σ H fun z H2 => r y z H2 Q
def tChn (r : R2) (tb : TE) (t : TChn) : TChn := fun y σ H Q => tb σ H fun z H2 => r y z H2 fun v H3 => ∃ k, v = .bl k ∧ (if k = true then t z σ H3 Q else Q (.bl false) H3)
theorem pch_one (ho : OpR X (compareOp op) r) (hb : PE X b tb) : PCh X [op] [b] (tCh1 r tb) := by
  refine ⟨fun pos pins s σ H y u Q I ry h => ?_⟩
  exact chain_last (thn (hb.run pins s σ H _ I h) fun w' s4 ⟨z', H4, I4, r4, q4⟩ => ho pins s4 σ H4 y z' u w' Q I4 ry r4 q4)
theorem pch_cons (ho : OpR X (compareOp op) r) (hb : PE X b tb) (hr : PCh X (op' :: ops) (c :: es) t) : PCh X (op :: op' :: ops) (b :: c :: es) (tChn r tb t) := by
  refine ⟨fun pos pins s σ H y u Q I ry h => ?_⟩
  refine chain_link (thn (hb.run pins s σ H _ I h) fun v s2 ⟨z, H2, I2, r2, q2⟩ => thn (ho pins s2 σ H2 y z u v _ I2 ry r2 q2) fun d s3 ⟨z3, H3, I3, r3, k, e, q3⟩ => ?_)
  subst e
  cases r3
  refine wpAny_truthy_bool ?_
  cases k with
  | false => exact ite_ff ⟨.bl false, H3, I3, rfl, q3⟩
  | true => exact ite_tt (hr.run pos pins s3 σ H3 z v Q I3 r2 q3)
theorem pe_chn (ha : PE X a ta) (hr : PCh X (op :: op' :: ops) (b :: c :: es) t) (hm : lastMarks (op :: op' :: ops) (b :: c :: es) = false := by with_unfolding_all rfl) : PE X (.Compare a (op :: op' :: ops) (b :: c :: es) pos) (fun σ H Q => ta σ H fun y H1 => t y σ H1 Q) := by
  refine ⟨fun pins s σ H Q I h => ?_⟩
  exact Compare_chain (thn (ha.run pins s σ H _ I h) fun v s1 ⟨x, H1, I1, r1, q1⟩ => hr.run pos pins s1 σ H1 x v Q I1 r1 q1) hm
end
/-- .. as a test -/
structure PTh (X : Cx) (ops : List CmpOp) (es : List Expr) (t : TChn) : Prop where
  run : ∀ (pos : Pos) (pins : List (Addr × Obj)) (s : Shared) (σ : St) (H : Hp) (y : V) (u : Value) (Q : Bool → Hp → Prop), Inv X pins σ H s → RelV y u → (t y σ H fun v H' => ∃ k, v = .bl k ∧ Q k H') →
    wpAny (model X.prog X.w) X.A (testChain pos u ops (evalEach es X.env)) (TP X pins σ Q) X.xe s
section
variable {X : Cx} {a b c : Expr} {ta tb : TE} {r : R2} {op op' : CmpOp} {ops : List CmpOp} {es : List Expr} {t : TChn} {pos : Pos}
theorem pth_one (ho : OpR X (compareOp op) r) (hb : PE X b tb) : PTh X [op] [b] (tCh1 r tb) := by
  refine ⟨fun pos pins s σ H y u Q I ry h => ?_⟩
  refine test_last (thn (hb.run pins s σ H _ I h) fun w' s4 ⟨z', H4, I4, r4, q4⟩ => thn (ho pins s4 σ H4 y z' u w' _ I4 ry r4 q4) fun d s3 ⟨z3, H3, I3, r3, k, e, q3⟩ => ?_)
  subst e
  cases r3
  exact wpAny_truthy_bool ⟨H3, I3, q3⟩
theorem pth_cons (ho : OpR X (compareOp op) r) (hb : PE X b tb) (hr : PTh X (op' :: ops) (c :: es) t) : PTh X (op :: op' :: ops) (b :: c :: es) (tChn r tb t) := by
  refine ⟨fun pos pins s σ H y u Q I ry h => ?_⟩
  refine test_link (thn (hb.run pins s σ H _ I h) fun v s2 ⟨z, H2, I2, r2, q2⟩ => thn (ho pins s2 σ H2 y z u v _ I2 ry r2 q2) fun d s3 ⟨z3, H3, I3, r3, k, e, q3⟩ => ?_)
  subst e
  cases r3
  refine wpAny_truthy_bool ?_
  cases k with
  | false =>
    obtain ⟨k', e', q'⟩ := q3
    cases e'
    exact ite_ff ⟨H3, I3, q'⟩
  | true => exact ite_tt (hr.run pos pins s3 σ H3 z v Q I3 r2 q3)
theorem pt_chn (ha : PE X a ta) (hr : PTh X (op :: op' :: ops) (b :: c :: es) t) (hm : lastMarks (op :: op' :: ops) (b :: c :: es) = false := by with_unfolding_all rfl) :
    PT X (.Compare a (op :: op' :: ops) (b :: c :: es) pos) (fun σ H Q => ta σ H fun y H1 => t y σ H1 fun v H' => ∃ k, v = .bl k ∧ Q k H') := by
  refine ⟨fun pins s σ H Q I h => ?_⟩
  exact isTrue_chain (thn (ha.run pins s σ H _ I h) fun v s1 ⟨x, H1, I1, r1, q1⟩ => hr.run pos pins s1 σ H1 x v Q I1 r1 q1) hm
end

/-! ### sorted(t), t a tuple of ints -/
def rSortedTup (K : PySem.W.Frag) : List V → Hp → VK → Prop := fun vs H Q => ∃ (a : Addr) (ns : List Int), vs = [V.ref a] ∧ SqT K H a (ns.map V.int) ∧ ns.length < 64 ∧
  ∀ (ns' : List Int) (p : Addr), ns'.Perm ns → ns'.Pairwise (· ≤ ·) → H p = none → Q (.ref p) (upd H p (.lst (ns'.map V.int)))
theorem collect_tup {prog : Program} {w : World} {A : Around} {E : Value → Shared → Prop} {s : Shared} {l : Addr} {o : Obj} {n : Nat} {vs : List Value} {Q : List Value → Shared → Prop} (ho : s.heap.get? l = some o) (hc : o.cls = .type "tuple") (hd : o.data = .seq vs.toArray n)
    (h : Q vs { s with heap := (s.heap.push (seqObj "list" #[] 0)).update s.heap.objs.size (Obj.mapSeq (· ++ vs.toArray)) }) (hsz : vs.length ≤ sizeLine) :
    wpAny (model prog w) A (collect (.ref l)) Q E s := by
  unfold collect
  refine wpAny_bind (wpAny_runValue (codeAny_builtin entry_proto_collect' ?_))
  show wpAny _ _ (do again (.builtin "list.__iadd__" ⟨[← newList [], .ref l], []⟩)) _ _ s
  refine wpAny_bind (wpAny_newList (wpAny_pure ⟨Code.quiet_builtin _ (by decide +kernel), codeAny_builtin entry_list_iadd' ?_⟩))
  show wpAny _ _ (Builtin.List.listExtendWith (.ref s.heap.objs.size) (.ref l) (.ref s.heap.objs.size)) _ _ { s with heap := s.heap.push (seqObj "list" #[] 0) }
  unfold Builtin.List.listExtendWith
  have ho' : (s.heap.push (seqObj "list" #[] 0)).get? l = some o := Heap.get?_push_of_some _ ho
  refine wpAny_bind (wpAny_typeOf (T := "tuple") ⟨o, ho', hc⟩ ?_)
  have h1 : (Builtin.List.listSameRef (.ref s.heap.objs.size) (.ref l) || Value.type "tuple" == Value.type "list" || Value.type "tuple" == Value.type "tuple") = true := by simp
  rw [if_pos h1]
  refine wpAny_bind (listItems_at ho' hd ?_)
  refine wpAny_bind (listItems_at (xs := #[]) (n := 0) (Heap.get?_push_size _ rfl) rfl ?_)
  rw [if_neg (by simp)]
  refine wpAny_bind (listUpdate_at (xs := #[]) (n := 0) (Heap.get?_push_size _ rfl) rfl ?_ (Nat.zero_le _) (by show (#[] ++ vs.toArray).size ≤ sizeLine + 1; simp only [Array.size_append, List.size_toArray, List.length_nil]; omega))
  refine wpAny_pure ?_
  show wpAny (model prog w) A (do
      let o ← load s.heap.objs.size
      match o.data with
      | .seq xs _ => pure xs.toList
      | _ => unsupported "internal:collect") Q E { s with heap := (s.heap.push (seqObj "list" #[] 0)).update s.heap.objs.size (Obj.mapSeq (· ++ vs.toArray)) }
  refine wpAny_bind (wpAny_load (get?_update_seq (Heap.get?_push_size _ rfl) _) ?_)
  show wpAny _ _ (pure ((#[] : Array Value) ++ vs.toArray).toList) Q E _
  rw [show ((#[] : Array Value) ++ vs.toArray).toList = vs by simp]
  exact wpAny_pure h
theorem cr_sortedTup {X : Cx} : CallR X (.builtin "sorted") (rSortedTup X.K) := by
  intro pins s σ H vs us Q I r h
  obtain ⟨a, ns, rfl, hs, h64, q⟩ := h
  obtain ⟨its, rv, ⟨o, ho, hc, n, hd⟩, hz⟩ := I.tuple hs
  rw [Vals.ref1 r]
  have hi := rv.ints
  have h64' : its.length < 64 := by rw [hi.length]; exact h64
  have line64 : 64 ≤ sizeLine := by rw [sizeLine_eq]; decide
  refine Calls.call_function_entry kind_sorted plain_sorted entry_sorted (args_sorted1 _) ?_
  unfold Builtin.«sorted»
  refine wpAny_bind (m := checkCount "sorted" 1 1 _) (wpAny_pure ?_)
  refine wpAny_bind (collect_tup ho hc hd ?_ (by omega))
  refine wpAny_bind (wpAny_newList ?_ (by omega))
  have hsz : ((s.heap.push (seqObj "list" #[] 0)).update s.heap.objs.size (Obj.mapSeq (· ++ its.toArray))).objs.size = s.heap.objs.size + 1 := by
    rw [Heap.size_update, size_push']
  have hoL : (((s.heap.push (seqObj "list" #[] 0)).update s.heap.objs.size (Obj.mapSeq (· ++ its.toArray))).push (seqObj "list" its.toArray 0)).get? (s.heap.objs.size + 1) = some (seqObj "list" its.toArray 0) := by
    rw [← hsz]; exact Heap.get?_push_size _ rfl
  show wpAny _ _ _ _ _ { s with heap := ((s.heap.push (seqObj "list" #[] 0)).update s.heap.objs.size (Obj.mapSeq (· ++ its.toArray))).push (seqObj "list" its.toArray 0) }
  rw [hsz]
  refine wpAny_bind (wpAny_holding (wpAny_call_entry slot_list_sort ⟨_, hoL, rfl⟩ entry_list_sort (list_sort_tree hoL hi h64' fun out ns' a1 a2 a3 => ⟨_, rfl, ?_⟩) (args_list_sort _)))
  refine wpAny_pure ⟨_, rfl, ?_⟩
  obtain ⟨ep, he'⟩ := sortedAll_at s.heap its out
  have hlen : (ns'.map V.int).length ≤ sizeLine := by rw [List.length_map, a2.length_eq]; exact small64 h64
  exact ⟨.ref _, upd H (s.heap.objs.size + 1) (.lst (ns'.map V.int)), I.laid (t' := s.toks) (fun _ _ => sortedAll_old) (Nat.le_succ _) ⟨hlen, out.toList, ep, vals_of_ints a1, he'⟩, rfl, q ns' _ a2 a3 (I.hok.fresh (Nat.le_succ _))⟩

/-! ### a > b of data -/
def rGtD (K : PySem.W.Frag) : R2 := fun x y H Q => ∃ d e, Dp K H x d ∧ Dp K H y e ∧ PySem.W.alike d e = true ∧ d ≠ .none ∧ d.depth ≤ 64 ∧ Q (.bl (PySem.W.dataLt e d)) H
theorem op_gtD {X : Cx} (hu : X.A.units + 64 < cLine) : OpR X (compareOp .Gt) (rGtD X.K) := by
  intro pins s σ H x y v u Q I rx ry h
  obtain ⟨d, e, hd, he, ha, hn, hdp, q⟩ := h
  obtain ⟨as, r1⟩ := Dp.reads I d x v hd rx
  obtain ⟨bs, r2⟩ := Dp.reads I e y u he ry
  exact PySem.W.gt_data r1 r2 ha hn (by have := Nat.min_le_left d.depth e.depth; omega) ⟨.bl _, H, I, rfl, q⟩
end L2
end

section
set_option Elab.async false
set_option linter.all false
set_option maxRecDepth 100000
/-! The text by places, the data on the heap. -/
namespace K30
open PySem L2
def top (i : Nat) : Stmt := PySem.Challenge.pw_paironce_k30_whole_completions.main.body.getD i (.Pass ⟨0, 0, 0, 0⟩)
abbrev sCheck : Stmt := top 6
abbrev sPairs : Stmt := top 7
abbrev sPlain : Stmt := top 8
abbrev sHeld : Stmt := top 9
abbrev sKept : Stmt := top 10
abbrev sAll : Stmt := top 11
abbrev sFault : Stmt := top 12
abbrev sWhole : Stmt := top 13
abbrev sOpen : Stmt := top 14
abbrev sOpairs : Stmt := top 15
abbrev sThirds : Stmt := top 16
abbrev sOdd : Stmt := top 17
abbrev sSInit : Stmt := inClass (top 19) 0
abbrev sPut : Stmt := inClass (top 19) 1
abbrev sTake : Stmt := inClass (top 19) 2
abbrev sRun : Stmt := inClass (top 19) 3
abbrev sComplete : Stmt := top 20
abbrev sCount : Stmt := top 21
abbrev sIsComp : Stmt := top 22
abbrev sRInit : Stmt := inClass (top 23) 0
abbrev sBest : Stmt := inClass (top 23) 1
abbrev sRefuse : Stmt := inClass (top 23) 2
abbrev sNone : Stmt := top 24
abbrev sRow : Stmt := top 26
abbrev sNumbers : Stmt := top 27
abbrev sPick : Stmt := top 28
abbrev sListed : Stmt := top 29
abbrev sRenamed : Stmt := top 30
abbrev sThrees : Stmt := top 31
abbrev sRefuses : Stmt := top 32
abbrev sLaw : Stmt := top 33

/-! ### values -/
def vI (n : Nat) : V := .int (n : Int)
def trV (t : Tri) : List V := [vI t.1, vI t.2.1, vI t.2.2]
def prK (p : Pr) : List Key := [.inl (p.1 : Int), .inl (p.2 : Int)]
def prV (p : Pr) : List V := [vI p.1, vI p.2]
theorem prK_V (p : Pr) : (prK p).map kV = prV p := rfl
theorem prK_inj {p q : Pr} (e : prK p = prK q) : p = q := by
  obtain ⟨a, b⟩ := p
  obtain ⟨c, d⟩ := q
  unfold prK at e
  simp only [List.cons.injEq, Sum.inl.injEq, and_true] at e
  rw [Int.ofNat_inj.mp e.1, Int.ofNat_inj.mp e.2]
theorem vI_inj {a b : Nat} (e : vI a = vI b) : a = b := by
  unfold vI at e
  injection e with e
  omega
/-- v is a three, a pair of points -/
def IsTr (H : Hp) (v : V) (t : Tri) : Prop := ∃ q, v = .ref q ∧ H q = some (.tup (trV t))
def IsPr (H : Hp) (v : V) (p : Pr) : Prop := ∃ q, v = .ref q ∧ H q = some (.tup (prV p))
/-- at a stands a list of threes, of pairs, of points -/
def TrL (H : Hp) (a : Addr) (ts : List Tri) : Prop := ∃ xs, H a = some (.lst xs) ∧ Paired (IsTr H) xs ts
def PrL (H : Hp) (a : Addr) (ps : List Pr) : Prop := ∃ xs, H a = some (.lst xs) ∧ Paired (IsPr H) xs ps
/-- .. or a tuple of threes -/
def TrT (H : Hp) (a : Addr) (ts : List Tri) : Prop := ∃ xs, H a = some (.tup xs) ∧ Paired (IsTr H) xs ts
/-- the dict of pairs, each once -/
def kv1 (p : Pr) : List Key × V := (prK p, .int 1)
def kvN (e : Pr × Nat) : List Key × V := (prK e.1, vI e.2)

/-- all is kept but what stands at S -/
def But (S : List Addr) (H H' : Hp) : Prop := ∀ b o, b ∉ S → H b = some o → H' b = some o
theorem But.refl (S : List Addr) (H : Hp) : But S H H := fun _ _ _ e => e
theorem But.trans {S : List Addr} {H H1 H2 : Hp} (a : But S H H1) (b : But S H1 H2) : But S H H2 := fun c o h e => b c o h (a c o h e)
theorem But.of {S : List Addr} {H H' : Hp} (h : Same H H') : But S H H' := fun b o _ e => h b o e
theorem same_upd {H : Hp} {p : Addr} {o : HO} (hp : H p = none) : Same H (upd H p o) := fun b u e => by
  rw [upd_ne (ne_of_none e hp)]
  exact e
theorem same_step {H0 H : Hp} {p : Addr} {o : HO} (h : Same H0 H) (hp : H p = none) : Same H0 (upd H p o) := h.trans (same_upd hp)
theorem but_upd {S : List Addr} {H : Hp} {p : Addr} {o : HO} (hp : p ∈ S) : But S H (upd H p o) := fun b u hb e => by
  rw [upd_ne (show b ≠ p from fun z => hb (by rw [z]; exact hp))]
  exact e
theorem same_back {H0 H : Hp} {p : Addr} {o : HO} (h : Same H0 H) (hp : H0 p = none) : Same H0 (upd H p o) := fun b u e => by
  rw [upd_ne (ne_of_none e hp)]
  exact h b u e

theorem same_frz {H1 H2 H3 : Hp} {d : Addr} {o : HO} (s2 : Same H1 H2) (hd : H1 d = none) (s3 : Same (upd H2 d o) H3) : Same H1 H3 := fun b u e => by
  have hb : b ≠ d := ne_of_none e hd
  exact s3 _ _ (by rw [upd_ne hb]; exact s2 _ _ e)
section
variable {H H' : Hp} {v : V} {t : Tri} {p : Pr} {a : Addr} {ts : List Tri} {ps : List Pr} {xs : List V}
theorem IsTr.same (h : IsTr H v t) (s : Same H H') : IsTr H' v t := let ⟨q, e, x⟩ := h; ⟨q, e, s q _ x⟩
theorem IsPr.same (h : IsPr H v p) (s : Same H H') : IsPr H' v p := let ⟨q, e, x⟩ := h; ⟨q, e, s q _ x⟩
/-- tuples stay whatever is written -/
def Tups (H H' : Hp) : Prop := ∀ q xs, H q = some (.tup xs) → H' q = some (.tup xs)
theorem Tups.refl (H : Hp) : Tups H H := fun _ _ e => e
theorem Tups.trans {H1 : Hp} (a : Tups H H1) (b : Tups H1 H') : Tups H H' := fun q xs e => b q xs (a q xs e)
theorem Tups.of (s : Same H H') : Tups H H' := fun q xs e => s q _ e
theorem tups_upd {p : Addr} {o o' : HO} (hp : H p = some o) (h : ∀ xs, o ≠ .tup xs) : Tups H (upd H p o') := fun q xs e => by
  rw [upd_ne (fun z => by rw [z, hp] at e; exact h xs (Option.some.inj e))]
  exact e
theorem IsTr.tups (h : IsTr H v t) (s : Tups H H') : IsTr H' v t := let ⟨q, e, x⟩ := h; ⟨q, e, s q _ x⟩
theorem IsPr.tups (h : IsPr H v p) (s : Tups H H') : IsPr H' v p := let ⟨q, e, x⟩ := h; ⟨q, e, s q _ x⟩
theorem trs_tups (h : Paired (IsTr H) xs ts) (s : Tups H H') : Paired (IsTr H') xs ts := Paired.mapP h fun _ _ z => z.tups s
theorem prs_tups (h : Paired (IsPr H) xs ps) (s : Tups H H') : Paired (IsPr H') xs ps := Paired.mapP h fun _ _ z => z.tups s
theorem TrL.same (h : TrL H a ts) (s : Same H H') : TrL H' a ts := let ⟨xs, e, x⟩ := h; ⟨xs, s a _ e, trs_tups x (Tups.of s)⟩
theorem TrT.same (h : TrT H a ts) (s : Same H H') : TrT H' a ts := let ⟨xs, e, x⟩ := h; ⟨xs, s a _ e, trs_tups x (Tups.of s)⟩
theorem PrL.same (h : PrL H a ps) (s : Same H H') : PrL H' a ps := let ⟨xs, e, x⟩ := h; ⟨xs, s a _ e, prs_tups x (Tups.of s)⟩
theorem IsTr.inj {u : Tri} (h : IsTr H v t) (h2 : IsTr H v u) : t = u := by
  obtain ⟨q, rfl, e⟩ := h
  obtain ⟨q2, e2, e3⟩ := h2
  cases e2
  rw [e] at e3
  injection e3 with e3
  injection e3 with e3
  unfold trV at e3
  simp only [List.cons.injEq, and_true] at e3
  obtain ⟨a, b, c⟩ := t
  obtain ⟨a', b', c'⟩ := u
  have h1 : a = a' := vI_inj e3.1
  have h2 : b = b' := vI_inj e3.2.1
  have h3 : c = c' := vI_inj e3.2.2
  rw [h1, h2, h3]
end
theorem paired_snoc {α β : Type} {F : α → β → Prop} : ∀ {l : List α} {m : List β} {a : α} {b : β}, Paired F l m → F a b → Paired F (l ++ [a]) (m ++ [b])
  | _, _, _, _, .nil, h => .cons h .nil
  | _, _, _, _, .cons r t, h => .cons r (paired_snoc t h)
theorem paired_at {α β : Type} {F : α → β → Prop} : ∀ {l : List α} {m : List β} {i : Nat} {a : α}, Paired F l m → l[i]? = some a → ∃ b, m[i]? = some b ∧ F a b
  | _, _, _, _, .nil, h => by simp at h
  | _, _, 0, _, .cons r _, h => by simp at h; subst h; exact ⟨_, rfl, r⟩
  | _, _, i + 1, a, .cons _ t, h => by
    obtain ⟨b, h1, h2⟩ := paired_at (i := i) (a := a) t (by simpa using h)
    exact ⟨b, by simpa using h1, h2⟩
theorem paired_at' {α β : Type} {F : α → β → Prop} : ∀ {l : List α} {m : List β} {i : Nat} {b : β}, Paired F l m → m[i]? = some b → ∃ a, l[i]? = some a ∧ F a b
  | _, _, _, _, .nil, h => by simp at h
  | _, _, 0, _, .cons r _, h => by simp at h; subst h; exact ⟨_, rfl, r⟩
  | _, _, i + 1, a, .cons _ t, h => by
    obtain ⟨b, h1, h2⟩ := paired_at' (i := i) (b := a) t (by simpa using h)
    exact ⟨b, by simpa using h1, h2⟩
/-- what came of the items so far, one more -/
theorem take_more {α : Type} {l : List α} {i : Nat} {x : α} (h : l[i]? = some x) : l.take (i + 1) = l.take i ++ [x] := by
  rw [List.take_add_one, h]
  rfl
/-- a def of the module that lets nothing out, ready to be called by its name -/
structure Cal (P : Program) (w : World) (K : PySem.W.Frag) (mg : Str → Option Value) (base : Heap) (k : Nat) (x : Str) (sp : Sp) (dvs : List V) : Prop where
  got : ∃ (f : Addr) (fd : FuncData) (ps : List Str) (ds : List Value), (FnOk P w K mg base CX0 k f fd ps sp ∧ mg x = some (.ref f)) ∧ (PySem.W.keepIn K (.ref f) = true ∧ Binds K fd ps ds) ∧ Vals dvs ds
section
variable {X : Cx} {k j : Nat} {x : Str} {sp : Sp} {dvs : List V} {p pos : Pos} {e : Expr} {es : List Expr} {t : TA}
theorem pe_c (c : Cal X.prog X.w X.K X.mg X.base k x sp dvs) (hr : Room j X.A) (hk : k ≤ j) (hg : Gl X x) (ha : PA X (e :: es) t)
    (h1 : (x == ("__debug__" : Str)) = false := by decide) (h2 : starEach (e :: es) X.env = (false, eval e X.env) :: starEach es X.env := by rfl) (h3 : (backTo pos (starEach es X.env)).any (·.1) = false := by rfl) :
    PE X (.Call (.Name x p) (e :: es) [] pos) (tCall sp dvs E0 t) :=
  let ⟨_, _, _, _, ⟨F, hm⟩, ⟨kp, b⟩, d⟩ := c.got
  pe_call F (hr.mono hk) hg hm kp b d pass0 ha h1 h2 h3
end
/-- the arguments are through -/
theorem tn {σ : St} {H : Hp} {Q : List V → Hp → Prop} (h : Q [] H) : tNil σ H Q := h
/-- a level's room, told by its number -/
theorem lv {j k : Nat} {A : Around} (hr : Room k A) (h : j ≤ k) : Room j A := hr.mono h
theorem lineN : 100000 < sizeLine := by rw [sizeLine_eq]; decide
theorem ln {n : Nat} (h : n ≤ 100000 := by simp) : n ≤ sizeLine := Nat.le_trans h (Nat.le_of_lt lineN)
theorem lt_ln {n : Nat} (h : n ≤ 100000) : n < sizeLine := Nat.lt_of_le_of_lt h lineN
end K30
end

section
set_option Elab.async false
set_option linter.all false
set_option maxRecDepth 100000
/-! Lists of threes sorted; what dicts of pairs tell. -/
namespace K30
open PySem L2
theorem paired_perm {α β : Type} {F : α → β → Prop} {xs ys : List α} (h : ys.Perm xs) : ∀ {us : List β}, Paired F xs us → ∃ vs, vs.Perm us ∧ Paired F ys vs := by
  induction h with
  | nil => exact fun {us} p => ⟨us, .refl _, p⟩
  | cons x _ ih =>
    intro us p
    cases p with
    | cons r t =>
      obtain ⟨vs, h1, h2⟩ := ih t
      exact ⟨_ :: vs, .cons _ h1, .cons r h2⟩
  | swap x y l =>
    intro us p
    cases p with
    | cons r t =>
      cases t with
      | cons r' t' => exact ⟨_, .swap _ _ _, .cons r' (.cons r t')⟩
  | trans _ _ ih1 ih2 =>
    intro us p
    obtain ⟨vs, h1, h2⟩ := ih2 p
    obtain ⟨ws, h3, h4⟩ := ih1 h2
    exact ⟨ws, h3.trans h1, h4⟩
theorem paired_pairwise {α β : Type} {F : α → β → Prop} {R : α → α → Prop} {S : β → β → Prop} (hR : ∀ a b c d, F a c → F b d → R a b → S c d) : ∀ {xs : List α} {us : List β}, Paired F xs us → xs.Pairwise R → us.Pairwise S
  | _, _, .nil, _ => .nil
  | _, _, .cons (a := a) (b := b) (l₁ := l1) (l₂ := l2) r t, h => by
    obtain ⟨h1, h2⟩ := List.pairwise_cons.mp h
    refine List.pairwise_cons.mpr ⟨fun u hu => ?_, paired_pairwise hR t h2⟩
    obtain ⟨j, hj, e⟩ := List.getElem_of_mem hu
    obtain ⟨x, h3, h4⟩ := paired_at' (i := j) (b := u) t (by rw [List.getElem?_eq_getElem hj, e])
    exact hR _ _ _ _ r h4 (h1 x (List.mem_of_getElem? h3))
def trI (t : Tri) : List Int := [(t.1 : Int), (t.2.1 : Int), (t.2.2 : Int)]
theorem trI_V (t : Tri) : (trI t).map V.int = trV t := rfl
theorem IsTr.tupI {K : PySem.W.Frag} {H : Hp} {v : V} {t : Tri} (h : IsTr H v t) : TupI K H v (trI t) := by
  obtain ⟨q, rfl, e⟩ := h
  exact ⟨q, rfl, SqT.of (by rw [trI_V]; exact e)⟩
theorem code_le {t u : Tri} (ht : t.1 < 64 ∧ t.2.1 < 64 ∧ t.2.2 < 64) (hu : u.1 < 64 ∧ u.2.1 < 64 ∧ u.2.2 < 64) (h : TS.code 64 (trI t) ≤ TS.code 64 (trI u)) : leT t u := by
  obtain ⟨a, b, c⟩ := t
  obtain ⟨a', b', c'⟩ := u
  have h' : (a : Int) * 4096 + ((b : Int) * 64 + ((c : Int) * 1 + 0)) ≤ (a' : Int) * 4096 + ((b' : Int) * 64 + ((c' : Int) * 1 + 0)) := h
  unfold leT
  simp only at ht hu ⊢
  omega
/-- below 64 -/
def low (t : Tri) : Prop := t.1 < 64 ∧ t.2.1 < 64 ∧ t.2.2 < 64
theorem low_bd {t : Tri} (h : low t) : TS.Bd 64 (trI t) := by
  intro m hm
  unfold low at h
  unfold trI at hm
  simp only [List.mem_cons, List.not_mem_nil, or_false] at hm
  rcases hm with rfl | rfl | rfl <;> omega
/-- sorted(l), l a list of threes -/
theorem sorted_trs {K : PySem.W.Frag} {H : Hp} {a : Addr} {ts : List Tri} {Q : VK} (h : TrL H a ts) (hl : ts.length < 64) (hb : ∀ t ∈ ts, low t)
    (q : ∀ (p : Addr) (xs : List V), H p = none → Paired (IsTr H) xs (sortT ts) → Q (.ref p) (upd H p (.lst xs))) : rSortU K 3 64 [V.ref a] H Q := by
  obtain ⟨xs, ha, hp⟩ := h
  refine ⟨a, xs, rfl, SqL.of ha, by rw [Paired.length hp]; exact hl, fun x hx => ?_, fun ys p h1 h2 h3 => ?_⟩
  · obtain ⟨j, hj, e⟩ := List.getElem_of_mem hx
    obtain ⟨t, h3, h4⟩ := paired_at (i := j) (a := x) hp (by rw [List.getElem?_eq_getElem hj, e])
    exact ⟨trI t, h4.tupI, rfl, low_bd (hb t (List.mem_of_getElem? h3))⟩
  · obtain ⟨vs, p1, p2⟩ := paired_perm h1 hp
    have hs : vs.Pairwise fun t u => TS.code 64 (trI t) ≤ TS.code 64 (trI u) := paired_pairwise (fun a b c d ha hb hR => hR _ _ ha.tupI hb.tupI) p2 h2
    have hs2 : vs.Pairwise leT := List.Pairwise.imp_of_mem (fun {t u} ht hu h => code_le (hb t (p1.mem_iff.mp ht)) (hb u (p1.mem_iff.mp hu)) h) hs
    rw [sortT_eq p1 hs2] at q
    exact q p ys h3 p2
/-- sorted(t), t a tuple of three points -/
theorem sorted_tri {K : PySem.W.Frag} {H : Hp} {v : V} {t : Tri} {Q : VK} (h : IsTr H v t) (q : ∀ p : Addr, H p = none → Q (.ref p) (upd H p (.lst (trV (srt t))))) : rSortedTup K [v] H Q := by
  obtain ⟨a, rfl, e⟩ := h
  refine ⟨a, trI t, rfl, SqT.of (by rw [trI_V]; exact e), by show 3 < 64; decide, fun ns p h1 h2 h3 => ?_⟩
  have hN : ∃ ms : List Nat, ns = ms.map Int.ofNat := by
    have : ∀ l : List Int, (∀ x ∈ l, 0 ≤ x) → ∃ ms : List Nat, l = ms.map Int.ofNat := by
      intro l
      induction l with
      | nil => exact fun _ => ⟨[], rfl⟩
      | cons x l ih =>
        intro hx
        obtain ⟨ms, e⟩ := ih fun y hy => hx y (List.mem_cons_of_mem _ hy)
        obtain ⟨m, hm⟩ := Int.eq_ofNat_of_zero_le (hx x List.mem_cons_self)
        exact ⟨m :: ms, by rw [e, hm]; rfl⟩
    refine this ns fun x hx => ?_
    have := h1.mem_iff.mp hx
    unfold trI at this
    simp only [List.mem_cons, List.not_mem_nil, or_false] at this
    rcases this with rfl | rfl | rfl <;> omega
  obtain ⟨ms, rfl⟩ := hN
  have p1 : (ms.map Int.ofNat).Perm ((triL t).map Int.ofNat) := h1
  have p2 : ms.Perm (triL t) := by
    have := p1.map Int.toNat
    rw [List.map_map, List.map_map] at this
    have e : ∀ l : List Nat, l.map (Int.toNat ∘ Int.ofNat) = l := fun l => by
      refine (List.map_congr_left fun x _ => ?_).trans (List.map_id l)
      exact Int.toNat_natCast x
    rw [e, e] at this
    exact this
  have s2 : ms.Pairwise (· ≤ ·) := by
    rw [List.pairwise_map] at h2
    exact h2.imp fun {a b} h => Int.ofNat_le.mp h
  rw [srt_unique p2 s2]
  exact q p h3

/-! ### dicts of pairs -/
/-- the pairs of some threes counted, in the order in which they are met -/
def bump : List (Pr × Nat) → Pr → List (Pr × Nat)
  | [], p => [(p, 1)]
  | e :: l, p => if e.1 = p then (p, e.2 + 1) :: l else e :: bump l p
def tally (ps : List Pr) : List (Pr × Nat) := ps.foldl bump []
def cnt : List (Pr × Nat) → Pr → Option Nat
  | [], _ => none
  | e :: l, p => if e.1 = p then some e.2 else cnt l p
theorem valV_kvN (l : List (Pr × Nat)) (p : Pr) : valV (l.map kvN) (prK p) = (cnt l p).map vI := by
  induction l with
  | nil => rfl
  | cons e l ih =>
    rw [List.map_cons]
    unfold cnt
    by_cases h : e.1 = p
    · rw [if_pos h, valV_pos (show (kvN e).1 = prK p by show prK e.1 = _; rw [h])]
      rfl
    · rw [if_neg h, valV_neg (show ¬ (kvN e).1 = prK p from fun z => h (prK_inj z)), ih]
theorem keys_bump (l : List (Pr × Nat)) (p : Pr) : (bump l p).map (·.1) = if p ∈ l.map (·.1) then l.map (·.1) else l.map (·.1) ++ [p] := by
  induction l with
  | nil => rfl
  | cons e l ih =>
    unfold bump
    by_cases h : e.1 = p
    · rw [if_pos h, if_pos (by rw [List.map_cons, h]; exact List.mem_cons_self)]
      show p :: l.map (·.1) = e.1 :: l.map (·.1)
      rw [h]
    · rw [if_neg h, List.map_cons, ih, List.map_cons]
      by_cases h2 : p ∈ l.map (·.1)
      · rw [if_pos h2, if_pos (List.mem_cons_of_mem _ h2)]
      · rw [if_neg h2, if_neg (fun z => (List.mem_cons.mp z).elim (fun q => h q.symm) h2)]
        rfl
theorem nodup_bump {l : List (Pr × Nat)} (p : Pr) (h : (l.map (·.1)).Nodup) : ((bump l p).map (·.1)).Nodup := by
  rw [keys_bump]
  by_cases h2 : p ∈ l.map (·.1)
  · rw [if_pos h2]; exact h
  · rw [if_neg h2]
    refine List.nodup_append.mpr ⟨h, by simp, fun a ha b hb e => ?_⟩
    rw [List.mem_singleton.mp hb] at e
    rw [e] at ha
    exact h2 ha
theorem cnt_none {l : List (Pr × Nat)} {p : Pr} : cnt l p = none ↔ p ∉ l.map (·.1) := by
  induction l with
  | nil => simp [cnt]
  | cons e l ih =>
    unfold cnt
    by_cases h : e.1 = p
    · rw [if_pos h]; simp [h]
    · rw [if_neg h, ih, List.map_cons, List.mem_cons, not_or]
      exact ⟨fun z => ⟨fun q => h q.symm, z⟩, fun z => z.2⟩
/-- d[p] = d.get(p, 0) + 1 -/
theorem put_bump : ∀ (l : List (Pr × Nat)) (p : Pr), (l.map (·.1)).Nodup → putK (l.map kvN) (prK p) (vI ((cnt l p).getD 0 + 1)) = (bump l p).map kvN := by
  intro l p hn
  unfold putK
  by_cases h : p ∈ l.map (·.1)
  · have hany : ((l.map kvN).any fun kv => decide (kv.1 = prK p)) = true := by
      obtain ⟨e, he, e2⟩ := List.mem_map.mp h
      exact List.any_eq_true.mpr ⟨kvN e, List.mem_map.mpr ⟨e, he, rfl⟩, decide_eq_true (by show prK e.1 = _; rw [e2])⟩
    rw [if_pos hany]
    have : ∀ l : List (Pr × Nat), p ∈ l.map (·.1) → (l.map (·.1)).Nodup → ((l.map kvN).map fun kv => if kv.1 = prK p then (kv.1, vI ((cnt l p).getD 0 + 1)) else kv) = (bump l p).map kvN := by
      intro l
      induction l with
      | nil => intro h; exact nomatch h
      | cons e l ih =>
        intro h hn
        obtain ⟨n1, n2⟩ := List.nodup_cons.mp hn
        unfold bump cnt
        by_cases hp : e.1 = p
        · rw [if_pos hp, if_pos hp, List.map_cons, List.map_cons, if_pos (show (kvN e).1 = prK p by show prK e.1 = _; rw [hp])]
          have rest : ((l.map kvN).map fun kv => if kv.1 = prK p then (kv.1, vI ((some e.2).getD 0 + 1)) else kv) = l.map kvN := by
            refine (List.map_congr_left fun kv hkv => ?_).trans (List.map_id _)
            obtain ⟨f, hf, rfl⟩ := List.mem_map.mp hkv
            rw [if_neg]
            · rfl
            · intro z
              exact n1 (List.mem_map.mpr ⟨f, hf, (prK_inj z).trans hp.symm⟩)
          rw [rest]
          show ((kvN e).1, _) :: _ = (prK p, _) :: _
          rw [show (kvN e).1 = prK p by show prK e.1 = _; rw [hp]]
          rfl
        · rw [if_neg hp, if_neg hp, List.map_cons, List.map_cons, if_neg (show ¬ (kvN e).1 = prK p from fun z => hp (prK_inj z)),
            ih ((List.mem_cons.mp h).resolve_left (fun q => hp q.symm)) n2]
          rfl
    exact this l h hn
  · have hany : ((l.map kvN).any fun kv => decide (kv.1 = prK p)) = false := by
      refine Bool.eq_false_iff.mpr fun z => ?_
      obtain ⟨kv, hkv, e⟩ := List.any_eq_true.mp z
      obtain ⟨f, hf, rfl⟩ := List.mem_map.mp hkv
      exact h (List.mem_map.mpr ⟨f, hf, prK_inj (of_decide_eq_true e)⟩)
    rw [if_neg (by rw [hany]; exact Bool.false_ne_true), cnt_none.mpr h]
    have : ∀ l : List (Pr × Nat), p ∉ l.map (·.1) → bump l p = l ++ [(p, 1)] := by
      intro l
      induction l with
      | nil => intro _; rfl
      | cons e l ih =>
        intro h
        rw [List.map_cons, List.mem_cons, not_or] at h
        unfold bump
        rw [if_neg (fun z => h.1 z.symm), ih h.2]
        rfl
    rw [this l h, List.map_append]
    rfl
theorem len_bump (l : List (Pr × Nat)) (p : Pr) : (bump l p).length ≤ l.length + 1 := by
  induction l with
  | nil => exact Nat.le_refl _
  | cons e l ih =>
    unfold bump
    split
    · simp
    · simp only [List.length_cons]; omega
theorem tally_snoc (ps : List Pr) (p : Pr) : tally (ps ++ [p]) = bump (tally ps) p := by
  unfold tally
  rw [List.foldl_append]
  rfl
theorem tally_len (ps : List Pr) : (tally ps).length ≤ ps.length := by
  have : ∀ (ps : List Pr) (l : List (Pr × Nat)), (ps.foldl bump l).length ≤ l.length + ps.length := by
    intro ps
    induction ps with
    | nil => intro l; exact Nat.le_refl _
    | cons p ps ih =>
      intro l
      have h1 := ih (bump l p)
      have h2 := len_bump l p
      simp only [List.foldl_cons, List.length_cons]
      omega
  have := this ps []
  rw [List.length_nil, Nat.zero_add] at this
  exact this
theorem tally_nodup (ps : List Pr) : ((tally ps).map (·.1)).Nodup := by
  have : ∀ (ps : List Pr) (l : List (Pr × Nat)), (l.map (·.1)).Nodup → ((ps.foldl bump l).map (·.1)).Nodup := by
    intro ps
    induction ps with
    | nil => exact fun l h => h
    | cons p ps ih => exact fun l h => ih _ (nodup_bump p h)
  exact this ps [] List.nodup_nil
theorem bump_new {l : List (Pr × Nat)} {p : Pr} (h : p ∉ l.map (·.1)) : bump l p = l ++ [(p, 1)] := by
  induction l with
  | nil => rfl
  | cons e l ih =>
    rw [List.map_cons, List.mem_cons, not_or] at h
    unfold bump
    rw [if_neg (fun z => h.1 z.symm), ih h.2]
    rfl
/-- pairs that are met once each -/
theorem tally_once {ps : List Pr} (h : ps.Nodup) : tally ps = ps.map fun p => (p, 1) := by
  have : ∀ (ps : List Pr) (l : List (Pr × Nat)), ps.Nodup → (∀ p ∈ ps, p ∉ l.map (·.1)) → ps.foldl bump l = l ++ ps.map fun p => (p, 1) := by
    intro ps
    induction ps with
    | nil => intro l _ _; simp
    | cons p ps ih =>
      intro l hn hl
      obtain ⟨n1, n2⟩ := List.nodup_cons.mp hn
      rw [List.foldl_cons, bump_new (hl p List.mem_cons_self), ih _ n2 fun q hq => ?_]
      · simp
      · rw [List.map_append, List.mem_append, not_or]
        refine ⟨hl q (List.mem_cons_of_mem _ hq), fun z => ?_⟩
        rw [List.mem_singleton.mp z] at hq
        exact n1 hq
  have := this ps [] h fun _ _ => by simp
  simpa [tally] using this
theorem kv_once (ps : List Pr) : (ps.map fun p => (p, 1)).map kvN = ps.map kv1 := by
  rw [List.map_map]
  rfl
/-- a pair met twice is counted -/
theorem cnt_bump (l : List (Pr × Nat)) (p q : Pr) : cnt (bump l p) q = if q = p then some ((cnt l p).getD 0 + 1) else cnt l q := by
  induction l with
  | nil =>
    unfold bump cnt cnt
    by_cases h : q = p
    · rw [if_pos h.symm, if_pos h]; rfl
    · rw [if_neg (fun z => h z.symm), if_neg h]
  | cons e l ih =>
    unfold bump
    by_cases he : e.1 = p
    · rw [if_pos he]
      unfold cnt
      rw [if_pos he]
      by_cases h : q = p
      · rw [if_pos h.symm, if_pos h]; rfl
      · rw [if_neg (fun z => h z.symm), if_neg h, if_neg (fun z => h (z.symm.trans he))]
    · rw [if_neg he]
      unfold cnt
      rw [ih, if_neg he]
      by_cases h : q = p
      · rw [if_pos h, if_neg (fun z => he (z.trans h)), if_pos h]
      · rw [if_neg h, if_neg h]
theorem cnt_tally (ps : List Pr) (q : Pr) : (cnt (tally ps) q).getD 0 = ps.count q := by
  have : ∀ (ps : List Pr) (l : List (Pr × Nat)), (cnt (ps.foldl bump l) q).getD 0 = (cnt l q).getD 0 + ps.count q := by
    intro ps
    induction ps with
    | nil => intro l; simp
    | cons p ps ih =>
      intro l
      rw [List.foldl_cons, ih, cnt_bump, List.count_cons]
      by_cases h : q = p
      · rw [if_pos h, h]
        simp
        omega
      · rw [if_neg h, if_neg (by simpa using fun z => h z.symm)]
        rfl
  have := this ps []
  simpa [tally, cnt] using this
theorem cnt_mem {l : List (Pr × Nat)} {p : Pr} {n : Nat} (h : cnt l p = some n) : (p, n) ∈ l := by
  induction l with
  | nil => exact nomatch h
  | cons e l ih =>
    unfold cnt at h
    by_cases he : e.1 = p
    · rw [if_pos he] at h
      cases h
      rw [← he]
      exact List.mem_cons_self
    · rw [if_neg he] at h
      exact List.mem_cons_of_mem _ (ih h)
/-- where a pair stands twice, some count is above one -/
theorem tally_twice {ps : List Pr} (h : ¬ ps.Nodup) : ((tally ps).any fun e => decide (1 < e.2)) = true := by
  have : ∃ q, 1 < ps.count q := by
    refine Classical.byContradiction fun c => h (List.nodup_iff_count.mpr fun q => ?_)
    exact Nat.le_of_not_lt fun z => c ⟨q, z⟩
  obtain ⟨q, hq⟩ := this
  rw [← cnt_tally] at hq
  cases e : cnt (tally ps) q with
  | none => rw [e] at hq; simp at hq
  | some n =>
    rw [e] at hq
    exact List.any_eq_true.mpr ⟨(q, n), cnt_mem e, decide_eq_true hq⟩
end K30
end

section
set_option Elab.async false
set_option autoImplicit false
set_option linter.all false
set_option maxRecDepth 100000
set_option maxHeartbeats 4000000
namespace K30
open PySem L2
section
variable {P : Program} {w : World} {K : PySem.W.Frag} {mg : Str → Option Value} {base : Heap}

/-! ### check_count -/
def spCheck : Sp := fun vs H Q _ => ∃ n : Nat, vs = [vI n] ∧ 1 ≤ n ∧ n ≤ 60 ∧ Q .non H
theorem scCheck : FnScope ["count"] ["count"] (defScope sCheck) := ⟨rfl, rfl, rfl, by decide +kernel, rfl, by decide +kernel, by decide +kernel⟩
theorem ok_check {f : Addr} {fd : FuncData} {t : Tok} (F : Fun K "check_count" "check_count" sCheck f fd) (mM : mg "MOST_POINTS" = some (.int 60 t)) : FnOk P w K mg base CX0 1 f fd ["count"] spCheck := by
  refine F.ok scCheck (fun vs H Q E h => ?_) (fun cdv A outer s H vs Q E hr h => ?_)
  · obtain ⟨n, rfl, _⟩ := h
    rfl
  · obtain ⟨n, rfl, h1, h2, k⟩ := h
    refine ⟨_, pss_one (ps_if (pt_not (pt_chain op_le op_le pe_int (pv 0) (pe_glob (v := .int 60) rfl mM ⟨_, rfl⟩))) (pss_one ps_never) pss_nil), ?_⟩
    refine ⟨_, rfl, _, _, rfl, rfl, _, rfl, ?_⟩
    rw [decide_eq_true (show (1 : Int) ≤ (n : Int) by omega)]
    refine iteT ⟨_, _, rfl, rfl, _, rfl, ?_⟩
    rw [decide_eq_true (show (n : Int) ≤ 60 by omega)]
    exact iteF k

/-! ### pairs_of -/
def spPairs : Sp := fun vs H Q _ => ∃ (q : Addr) (t : Tri), vs = [.ref q] ∧ H q = some (.tup (trV t)) ∧ ∀ (H' : Hp) (p : Addr), Same H H' → H p = none → PrL H' p (pairsOf t) → Q (.ref p) H'
theorem scPairs : FnScope ["three", "a", "b", "c"] ["three"] (defScope sPairs) := ⟨rfl, rfl, rfl, by decide +kernel, rfl, by decide +kernel, by decide +kernel⟩
theorem ok_pairs {f : Addr} {fd : FuncData} (F : Fun K "pairs_of" "pairs_of" sPairs f fd) : FnOk P w K mg base CX0 1 f fd ["three"] spPairs := by
  refine F.ok scPairs (fun vs H Q E h => ?_) (fun cdv A outer s H vs Q E hr h => ?_)
  · obtain ⟨q, t, rfl, _⟩ := h
    rfl
  · obtain ⟨q, t, rfl, hq, k⟩ := h
    have nd := scPairs.nd
    refine ⟨_, pss_cons (ps_asg (pv 0) (pg_tup rfl (pgs_cons (pg_name (i := 1) nd rfl (.inl rfl)) (pgs_cons (pg_name (i := 2) nd rfl (.inl rfl)) (pgs_cons (pg_name (i := 3) nd rfl (.inl rfl)) pgs_nil)))))
      (pss_one (ps_ret (pe_lst (pa_cons (pe_tup (pa_cons (pv 1) (pa_cons (pv 2) pa_nil))) (pa_cons (pe_tup (pa_cons (pv 1) (pa_cons (pv 3) pa_nil))) (pa_cons (pe_tup (pa_cons (pv 2) (pa_cons (pv 3) pa_nil))) pa_nil)))))), ?_⟩
    refine ⟨_, rfl, q, _, rfl, SqT.of hq, rfl, _, _, rfl, _, _, rfl, _, _, rfl, rfl, ?_⟩
    refine ⟨_, rfl, _, rfl, ln, fun p1 h1 => ⟨_, rfl, _, rfl, ln, fun p2 h2 => ⟨_, rfl, _, rfl, ln, fun p3 h3 => ⟨ln, fun p4 h4 => ?_⟩⟩⟩⟩
    have s1 := same_upd (o := .tup [vI t.1, vI t.2.1]) h1
    have s2 := same_upd (o := .tup [vI t.1, vI t.2.2]) h2
    have s3 := same_upd (o := .tup [vI t.2.1, vI t.2.2]) h3
    have s4 := same_upd (o := .lst [.ref p1, .ref p2, .ref p3]) h4
    refine k _ p4 (s1.trans (s2.trans (s3.trans s4))) (s1.free (s2.free (s3.free h4))) ⟨_, upd_same, .cons ⟨p1, rfl, ?_⟩ (.cons ⟨p2, rfl, ?_⟩ (.cons ⟨p3, rfl, ?_⟩ .nil))⟩
    · exact s4 _ _ (s3 _ _ (s2 _ _ upd_same))
    · exact s4 _ _ (s3 _ _ upd_same)
    · exact s4 _ _ upd_same
end
end K30
end

section
set_option Elab.async false
set_option autoImplicit false
set_option linter.all false
set_option maxRecDepth 100000
set_option maxHeartbeats 4000000
namespace K30
open PySem L2
/-- a for over what stands in slot j: a list or a tuple -/
theorem for_seq {K : PySem.W.Frag} {j : Nat} {a : Addr} {xs : List V} {g : TG} {tb : TS} {D : Ends} {σ : St} {H : Hp} (Pv : Nat → St → Hp → Prop) (ha : σ[j]? = some (some (.ref a))) (h0 : Pv 0 σ H)
    (hl : (∀ i σ H, Pv i σ H → SqL K H a xs) ∨ (∀ i σ H, Pv i σ H → SqT K H a xs))
    (hs : ∀ i x σ H, xs[i]? = some x → Pv i σ H → g x σ H fun σ2 H2 => tb { D with nx := Pv (i + 1), ct := Pv (i + 1), bk := D.nx } σ2 H2) (hd : ∀ σ H, Pv xs.length σ H → D.nx σ H) :
    tFor (fun σ H R => iList K (tVar j) σ H R ∨ iTup K (tVar j) σ H R) g tb D σ H := by
  rcases hl with hl | hl
  · exact .inl ⟨_, ha, a, rfl, ⟨xs, hl 0 σ H h0⟩, for_list (K := K) (a := a) (xs := xs) Pv h0 (fun i σ H _ p => hl i σ H p) hs hd⟩
  · exact .inr ⟨_, ha, a, rfl, ⟨xs, hl 0 σ H h0⟩, for_tup (K := K) (a := a) (xs := xs) Pv h0 (fun i σ H _ p => hl i σ H p) hs hd⟩
section
variable {P : Program} {w : World} {K : PySem.W.Frag} {mg : Str → Option Value} {base : Heap}

/-! ### plain_threes -/
def spPlain : Sp := fun vs H Q _ => ∃ (n : Nat) (a : Addr) (ts : List Tri), vs = [vI n, .ref a] ∧ 1 ≤ n ∧ n ≤ 60 ∧ (TrL H a ts ∨ TrT H a ts) ∧ (∀ t ∈ ts, dif n t) ∧ ts.length < 64 ∧
  ∀ (H' : Hp) (p : Addr), Same H H' → H p = none → TrL H' p (sortT (ts.map srt)) → Q (.ref p) H'
theorem scPlain : FnScope ["count", "threes", "found", "three", "points"] ["count", "threes"] (defScope sPlain) := ⟨rfl, rfl, rfl, by decide +kernel, rfl, by decide +kernel, by decide +kernel⟩
theorem ok_plain {f : Addr} {fd : FuncData} (F : Fun K "plain_threes" "plain_threes" sPlain f fd) (cC : Cal P w K mg base 1 "check_count" spCheck []) (zT : mg "tuple" = none) (zS : mg "sorted" = none) (zL : mg "len" = none) :
    FnOk P w K mg base CX0 2 f fd ["count", "threes"] spPlain := by
  refine F.ok scPlain (fun vs H Q E h => ?_) (fun cdv A outer s H vs Q E hr h => ?_)
  · obtain ⟨n, a, ts, rfl, _⟩ := h
    rfl
  · obtain ⟨n, a, ts, rfl, h1, h2, hT, hd, hlen, k⟩ := h
    have nd := scPlain.nd
    refine ⟨_, pss_cons (ps_expr (pe_c cC hr (by decide) rfl (pa_cons (pv 0) pa_nil)))
      (pss_cons (ps_set (i := 2) nd rfl (.inl rfl) (pe_lst pa_nil))
      (pss_cons (ps_for PassesOwn.never rfl (pi_or (pi_list (pv 1)) (pi_tup (pv 1))) (pg_name (i := 3) nd rfl (.inl rfl))
        (pss_cons (ps_set (i := 4) nd rfl (.inl rfl) (pe_tupleOf rfl zT (pe_callB cr_sortedTup rfl zS (by decide +kernel) (pa_cons (pv 3) pa_nil))))
        (pss_cons (ps_if (PW.pt (pw_or (pt_cmpR op_ne (pe_callB call_len_seq rfl zL PySem.boot_len (pa_cons (pv 4) pa_nil)) pe_int (nomark _))
            (pw_or1 (pt_not (pt_chn pe_int (pth_cons op_le (pe_ix ix_tup (pv 4) pe_int (fun _ _ => rfl)) (pth_cons op_lt (pe_ix ix_tup (pv 4) pe_int (fun _ _ => rfl))
              (pth_cons op_lt (pe_ix ix_tup (pv 4) pe_int (fun _ _ => rfl)) (pth_one op_lt (pv 0)))))))))) (pss_one ps_never) pss_nil)
        (pss_one (ps_expr (pe_bm PySem.F.plainAttrs_list PySem.F.slot_list_append PySem.F.type_list_append mt_append (pv 2) (pa_cons (pv 4) pa_nil)))))))
      (pss_one (ps_ret (pe_callB (cr_sortT (d := 3) (B := 64) (by decide)) rfl zS (by decide +kernel) (pa_cons (pv 2) pa_nil)))))), ?_⟩
    refine ⟨_, rfl, n, rfl, h1, h2, ?_⟩
    refine ⟨ln, fun l hl => ?_⟩
    have s0 := same_upd (o := .lst []) hl
    obtain ⟨xs, hx, hp, hl2⟩ : ∃ xs, (H a = some (.lst xs) ∨ H a = some (.tup xs)) ∧ Paired (IsTr H) xs ts ∧ True := by
      rcases hT with ⟨xs, e, p⟩ | ⟨xs, e, p⟩
      · exact ⟨xs, .inl e, p, trivial⟩
      · exact ⟨xs, .inr e, p, trivial⟩
    refine for_seq (a := a) (xs := xs) (fun i σ H' => ∃ (v3 v4 : Option V) (ys : List V), σ = [some (vI n), some (.ref a), some (.ref l), v3, v4] ∧ Same H H' ∧ H' l = some (.lst ys) ∧ Paired (IsTr H') ys ((ts.take i).map srt))
      rfl ⟨none, none, [], rfl, s0, upd_same, .nil⟩ ?_ ?_ ?_
    · rcases hx with hx | hx
      · exact .inl fun i σ H' ⟨_, _, _, _, sm, _⟩ => SqL.of (sm _ _ hx)
      · exact .inr fun i σ H' ⟨_, _, _, _, sm, _⟩ => SqT.of (sm _ _ hx)
    · rintro i x σ H' hi ⟨v3, v4, ys, rfl, sm, hy, hpy⟩
      obtain ⟨t, ht, hxt⟩ := paired_at hp hi
      have hxt' : IsTr H' x t := hxt.same sm
      have hdt := hd t (List.mem_of_getElem? ht)
      have ho := srt_dif hdt
      have hyl : ys.length ≤ 64 := by
        have e1 := Paired.length hpy
        rw [List.length_map, List.length_take] at e1
        omega
      -- points = tuple(sorted(three))
      refine ⟨_, rfl, ?_⟩
      refine tn (sorted_tri hxt' fun p1 hp1 => ?_)
      refine .inl ⟨p1, _, rfl, SqL.of upd_same, fun p2 hp2 => ?_⟩
      have sA := same_upd (o := .lst (trV (srt t))) hp1
      have sB := same_upd (o := .tup (trV (srt t))) hp2
      have sAB := sA.trans sB
      have hpt : upd (upd H' p1 (.lst (trV (srt t)))) p2 (.tup (trV (srt t))) p2 = some (.tup (trV (srt t))) := upd_same
      -- the test
      refine ⟨_, rfl, p2, _, rfl, .inr (SqT.of hpt), rfl, _, rfl, ?_⟩
      have e3 : (!decide (V.int ((trV (srt t)).length : Int) = V.int 3)) = false := by
        show (!decide (V.int 3 = V.int 3)) = false
        decide
      refine (if_neg (by rw [e3]; exact Bool.false_ne_true)).mpr ?_
      obtain ⟨o1, o2, o3⟩ := ho
      refine ⟨_, rfl, p2, _, _, _, rfl, rfl, SqT.of hpt, rfl, _, _, rfl, rfl, _, rfl, ?_⟩
      rw [decide_eq_true (show (0 : Int) ≤ ((srt t).1 : Int) by omega)]
      refine iteT ⟨_, rfl, p2, _, _, _, rfl, rfl, SqT.of hpt, rfl, _, _, rfl, rfl, _, rfl, ?_⟩
      rw [decide_eq_true (show ((srt t).1 : Int) < ((srt t).2.1 : Int) by omega)]
      refine iteT ⟨_, rfl, p2, _, _, _, rfl, rfl, SqT.of hpt, rfl, _, _, rfl, rfl, _, rfl, ?_⟩
      rw [decide_eq_true (show ((srt t).2.1 : Int) < ((srt t).2.2 : Int) by omega)]
      refine iteT ⟨_, rfl, _, _, rfl, rfl, _, rfl, ?_⟩
      rw [decide_eq_true (show ((srt t).2.2 : Int) < (n : Int) by omega)]
      refine iteF ?_
      -- found.append(points)
      refine ⟨_, rfl, .inl ⟨rfl, _, SqL.of (sAB _ _ hy)⟩, _, rfl, l, _, _, rfl, rfl, sAB _ _ hy, lt_ln (by omega), ?_⟩
      have hlH : H l = none := hl
      refine ⟨_, _, ys ++ [.ref p2], rfl, same_back (sm.trans sAB) hlH, upd_same, ?_⟩
      rw [take_more ht, List.map_append]
      have tp : Tups H' (upd (upd (upd H' p1 (.lst (trV (srt t)))) p2 (.tup (trV (srt t)))) l (.lst (ys ++ [.ref p2]))) := (Tups.of sAB).trans (tups_upd (sAB _ _ hy) fun _ z => nomatch z)
      refine paired_snoc (trs_tups hpy tp) ⟨p2, rfl, ?_⟩
      exact tups_upd (sAB _ _ hy) (fun _ z => nomatch z) _ _ hpt
    · rintro σ H' ⟨v3, v4, ys, rfl, sm, hy, hpy⟩
      have e1 := Paired.length hp
      rw [e1, List.take_length] at hpy
      refine ⟨_, rfl, ?_⟩
      refine tn (sorted_trs ⟨ys, hy, hpy⟩ (by rw [List.length_map]; exact hlen) (fun t ht => ?_) fun p zs hp0 hz => ?_)
      · obtain ⟨u, hu, rfl⟩ := List.mem_map.mp ht
        obtain ⟨o1, o2, o3⟩ := srt_dif (hd u hu)
        exact ⟨by omega, by omega, by omega⟩
      · have sz := same_upd (o := .lst zs) hp0
        exact k _ p (sm.trans sz) (sm.free hp0) ⟨zs, upd_same, trs_tups hz (Tups.of sz)⟩
end
end K30
end

section
set_option Elab.async false
set_option autoImplicit false
set_option linter.all false
set_option maxRecDepth 100000
set_option maxHeartbeats 4000000
namespace K30
open PySem L2
section
variable {P : Program} {w : World} {K : PySem.W.Frag} {mg : Str → Option Value} {base : Heap}

/-! ### held_pairs -/
def spHeld : Sp := fun vs H Q _ => ∃ (a : Addr) (ts : List Tri), vs = [.ref a] ∧ TrL H a ts ∧ ts.length ≤ 1000 ∧
  ∀ (H' : Hp) (p : Addr), Same H H' → H p = none → H' p = some (.dT ((tally (hl ts)).map kvN)) → Q (.ref p) H'
theorem scHeld : FnScope ["threes", "found", "three", "pair"] ["threes"] (defScope sHeld) := ⟨rfl, rfl, rfl, by decide +kernel, rfl, by decide +kernel, by decide +kernel⟩
theorem hl_take {ts : List Tri} {i : Nat} {t : Tri} (h : ts[i]? = some t) : hl (ts.take (i + 1)) = hl (ts.take i) ++ pairsOf t := by
  rw [take_more h, hl_append, hl_one]
theorem ok_held {f : Addr} {fd : FuncData} (F : Fun K "held_pairs" "held_pairs" sHeld f fd) (cP : Cal P w K mg base 1 "pairs_of" spPairs []) : FnOk P w K mg base CX0 2 f fd ["threes"] spHeld := by
  refine F.ok scHeld (fun vs H Q E h => ?_) (fun cdv A outer s H vs Q E hr h => ?_)
  · obtain ⟨a, ts, rfl, _⟩ := h
    rfl
  · obtain ⟨a, ts, rfl, ⟨xs, hx, hp⟩, hlen, k⟩ := h
    have nd := scHeld.nd
    refine ⟨_, pss_cons (ps_set (i := 1) nd rfl (.inl rfl) pe_dnewT)
      (pss_cons (ps_for PassesOwn.never rfl (pi_list (pv 0)) (pg_name (i := 2) nd rfl (.inl rfl))
        (pss_one (ps_for PassesOwn.never rfl (pi_list (pe_c cP hr (by decide) rfl (pa_cons (pv 2) pa_nil))) (pg_name (i := 3) nd rfl (.inl rfl))
          (pss_one (ps_dput (hu_of hr) (pv 1) (pv 3) (pe_op op_add (pe_dget2 (hu_of hr) (pv 1) (pv 3) pe_int ⟨rfl, rfl, rfl, rfl⟩) pe_int) rfl)))))
      (pss_one (ps_ret (pv 1)))), ?_⟩
    intro d hd
    refine ⟨_, rfl, a, rfl, ⟨xs, SqL.of (same_upd hd _ _ hx)⟩, for_list (K := K) (a := a) (xs := xs)
      (fun i σ H' => ∃ (v2 v3 : Option V), σ = [some (.ref a), some (.ref d), v2, v3] ∧ Same H H' ∧ H' d = some (.dT ((tally (hl (ts.take i))).map kvN)))
      ⟨none, none, rfl, same_upd hd, upd_same⟩ (fun i σ H' _ ⟨_, _, _, sm, _⟩ => SqL.of (sm _ _ hx)) ?_ ?_⟩
    · rintro i x σ H' hi ⟨v2, v3, rfl, sm, hdd⟩
      obtain ⟨t, ht, hxt⟩ := paired_at hp hi
      obtain ⟨q, rfl, hq⟩ := hxt.same sm
      refine ⟨_, rfl, q, t, rfl, hq, fun H1 l s1 hl1 hL => ?_⟩
      obtain ⟨ys, hy, hpy⟩ := hL
      have hlH : H l = none := sm.free hl1
      have hld : l ≠ d := fun z => by rw [z, hdd] at hl1; cases hl1
      refine ⟨l, rfl, ⟨ys, SqL.of hy⟩, for_list (K := K) (a := l) (xs := ys)
        (fun j σ H2 => ∃ (v3 : Option V), σ = [some (.ref a), some (.ref d), some (.ref q), v3] ∧ Same H H2 ∧ Tups H1 H2 ∧ H2 l = some (.lst ys) ∧ H2 d = some (.dT ((tally (hl (ts.take i) ++ (pairsOf t).take j)).map kvN)))
        ⟨v3, rfl, sm.trans s1, Tups.refl _, hy, by rw [List.take_zero, List.append_nil]; exact s1 _ _ hdd⟩ (fun j σ H2 _ ⟨_, _, _, _, e, _⟩ => SqL.of e) ?_ ?_⟩
      · rintro j y σ H2 hj ⟨v3, rfl, sm2, tp2, hy2, hd2⟩
        obtain ⟨p, hpj, hyp⟩ := paired_at hpy hj
        obtain ⟨b, rfl, hb⟩ := hyp.tups tp2
        have hb' : H2 b = some (.tup ((prK p).map kV)) := hb
        have g := DGet.t hd2 hb'
        rw [valV_kvN] at g
        have hlen2 : ((tally (hl (ts.take i) ++ (pairsOf t).take j)).map kvN).length < sizeLine := by
          have h1 := tally_len (hl (ts.take i) ++ (pairsOf t).take j)
          rw [List.length_append, hl_len, List.length_take, List.length_take] at h1
          have h2 : (pairsOf t).length = 3 := rfl
          rw [List.length_map]
          refine lt_ln ?_
          omega
        refine ⟨_, rfl, d, rfl, .inr ⟨_, .inl hd2⟩, _, rfl, _, g, ?_⟩
        have e0 : ((cnt (tally (hl (ts.take i) ++ (pairsOf t).take j)) p).map vI).getD (V.int 0) = vI ((cnt (tally (hl (ts.take i) ++ (pairsOf t).take j)) p).getD 0) := by
          cases cnt (tally (hl (ts.take i) ++ (pairsOf t).take j)) p <;> rfl
        rw [e0]
        refine ⟨_, _, rfl, rfl, _, rfl, _, rfl, d, _, rfl, DPut.t hd2 hb' hlen2, ?_⟩
        have e1 := put_bump (tally (hl (ts.take i) ++ (pairsOf t).take j)) p (tally_nodup _)
        refine ⟨_, rfl, same_back sm2 hd, tp2.trans (tups_upd hd2 fun _ z => nomatch z), (upd_ne hld).trans hy2, ?_⟩
        rw [upd_same, take_more hpj, ← List.append_assoc, tally_snoc, ← e1]
        rfl
      · rintro σ H2 ⟨v3, rfl, sm2, tp2, hy2, hd2⟩
        refine ⟨_, _, rfl, sm2, ?_⟩
        rw [Paired.length hpy, List.take_length] at hd2
        rw [hl_take ht]
        exact hd2
    · rintro σ H' ⟨v2, v3, rfl, sm, hdd⟩
      rw [Paired.length hp, List.take_length] at hdd
      exact ⟨_, rfl, k H' d sm hd hdd⟩
end
end K30
end

section
set_option Elab.async false
set_option autoImplicit false
set_option linter.all false
set_option maxRecDepth 100000
set_option maxHeartbeats 4000000
namespace K30
open PySem L2
/-- what the top has written of InvalidSystem -/
structure ErrT (K : PySem.W.Frag) (mg : Str → Option Value) (C : Addr) : Prop where
  xP : PySem.W.excIn K C [.type "ValueError", .type "Exception", .type "BaseException", .type "object"] "ValueError.__new__" = true
  gP : mg "InvalidSystem" = some (.ref C)
  kP : PySem.W.keepIn K (.ref C) = true
  bP : PySem.W.subIn K (.ref C) (.type "BaseException") = some true
  tP : PySem.W.typeIn K (.ref C) = some (.type "type")
  iP : PySem.W.isClsIn K C = true
  sP : PySem.W.subIn K (.ref C) (.ref C) = some true
/-- the values of a locked dict with tuple keys, walked -/
theorem walk_valsT {d : Addr} {o : Obj} {kvs : List (List Key × V)} : Walk (Itdt d o kvs) kvs.length (fun H => H d = some (.frz o (.dT kvs))) (fun i H x H' => H' = H ∧ ∃ k, kvs[i]? = some (k, x)) :=
  ⟨fun i _ hi q => ⟨q, hi⟩, fun _ q => ⟨q, Nat.le_refl _⟩, fun _ _ _ _ _ q y => y⟩
section
variable {P : Program} {w : World} {K : PySem.W.Frag} {mg : Str → Option Value} {base : Heap}

/-! ### kept_threes -/
def Raw (H : Hp) (n : Nat) (a : Addr) (ts : List Tri) : Prop := 1 ≤ n ∧ n ≤ 60 ∧ (TrL H a ts ∨ TrT H a ts) ∧ (∀ t ∈ ts, dif n t) ∧ ts.length < 64
def spKept : Sp := fun vs H Q _ => ∃ (n : Nat) (a : Addr) (ts : List Tri), vs = [vI n, .ref a] ∧ Raw H n a ts ∧ (hl (sortT (ts.map srt))).Nodup ∧
  ∀ (H' : Hp) (p : Addr), Same H H' → H p = none → TrL H' p (sortT (ts.map srt)) → Q (.ref p) H'
/-- .. refused -/
def spKeptX (C : Addr) : Sp := fun vs H _ E => ∃ (n : Nat) (a : Addr) (ts : List Tri), vs = [vI n, .ref a] ∧ Raw H n a ts ∧ ¬ (hl (sortT (ts.map srt))).Nodup ∧ ∀ H' : Hp, Same H H' → E (.ref C) none H'
theorem scKept : FnScope ["count", "threes", "found", "many"] ["count", "threes"] (defScope sKept) := ⟨rfl, rfl, rfl, by decide +kernel, rfl, by decide +kernel, by decide +kernel⟩
/-- the counts that are above one -/
theorem vals_gt (l : List (Pr × Nat)) (i : Nat) (k : List Key) (x : V) (h : (l.map kvN)[i]? = some (k, x)) : ∃ e, l[i]? = some e ∧ x = vI e.2 := by
  rw [List.getElem?_map] at h
  cases e : l[i]? with
  | none => rw [e] at h; cases h
  | some e' =>
    rw [e] at h
    have h2 : kvN e' = (k, x) := Option.some.inj h
    exact ⟨e', rfl, (congrArg Prod.snd h2).symm⟩
/-- the reading of the test: some count is above one -/
theorem many_reads {σ : St} {H1 : Hp} {d : Addr} {l : List (Pr × Nat)} {o : Obj} {D : Addr} {Qd : Hp → Prop} (hD : H1 D = none) (hd : H1 d = some (.frz o (.dT (l.map kvN)))) (hl : l.length ≤ 100000) (h3 : σ.length = 4) {te : TE} (hte : te = tOp (rI0 fun i j => V.bl (decide (j < i))) (tVar 3) (tC (.int 1)))
    (q : ∀ (H' : Hp), Same H1 H' → H' D = some (.lst ((l.map fun e => decide (1 < e.2)).map V.bl)) → Qd H') :
    ∃ W : Nat → Nat → Hp → Prop, (∃ m, W 0 m (upd H1 D (.lst []))) ∧ ∀ i m H, W i m H →
      ((Itdt d o (l.map kvN)).stop i H ∧ Qd H) ∨ ((Itdt d o (l.map kvN)).go i H ∧ ∃ Nx : Hp → Prop, (∀ H', Nx H' → ∃ m', m' < m ∧ W (i + 1) m' H') ∧ ∀ x H', (Itdt d o (l.map kvN)).yld i H x H' → gName 3 x (wipe σ [3]) H' fun σ2 H2 => wipe σ2 [3] = wipe σ [3] ∧ tYes σ2 H2 fun b H3 =>
        if b = true then te σ2 H3 fun y H4 => ∃ acc, H4 D = some (.lst acc) ∧ acc.length < sizeLine ∧ Nx (upd H4 D (.lst (acc ++ [y]))) else Nx H3) := by
  subst hte
  obtain ⟨s0, s1, s2, s3, rfl⟩ : ∃ a b c d, σ = [a, b, c, d] := by
    match σ, h3 with
    | [a, b, c, d], _ => exact ⟨a, b, c, d, rfl⟩
  have hdD : d ≠ D := ne_of_none hd hD
  refine lc_it walk_valsT (fun i H' => Same H1 H' ∧ H' D = some (.lst (((l.take i).map fun e => decide (1 < e.2)).map V.bl))) ⟨same_upd hD, upd_same⟩ (fun i H' _ h => h.1 _ _ hd) ?_ ?_
  · rintro i x H' H'' hi ⟨sm, hl'⟩ ⟨rfl, k, hk⟩
    obtain ⟨e, he, rfl⟩ := vals_gt l i k x hk
    refine ⟨rfl, ?_⟩
    refine ⟨_, rfl, _, _, rfl, rfl, _, hl', ?_, same_back sm hD, ?_⟩
    · rw [List.length_map, List.length_map, List.length_take]
      exact lt_ln (by omega)
    · rw [upd_same, take_more he, List.map_append, List.map_append]
      have : decide ((1 : Int) < (e.2 : Int)) = decide (1 < e.2) := by
        by_cases c : 1 < e.2
        · rw [decide_eq_true c, decide_eq_true (by omega)]
        · rw [decide_eq_false c, decide_eq_false (by omega)]
      show some (HO.lst (_ ++ [V.bl (decide ((1 : Int) < (e.2 : Int)))])) = _
      rw [this]
      rfl
  · rintro H' ⟨sm, hl'⟩
    rw [List.length_map, List.take_length] at hl'
    exact q H' sm hl'
theorem tally_hl_len {ts : List Tri} (h : ts.length < 64) : (tally (hl (sortT (ts.map srt)))).length ≤ 100000 := by
  have h1 := tally_len (hl (sortT (ts.map srt)))
  rw [hl_len] at h1
  have h2 := (sortT_perm (ts.map srt)).length_eq
  rw [List.length_map] at h2
  omega
theorem sorted_len {ts : List Tri} (h : ts.length < 64) : (sortT (ts.map srt)).length ≤ 1000 := by
  have h2 := (sortT_perm (ts.map srt)).length_eq
  rw [List.length_map] at h2
  omega
theorem none_many {l : List (Pr × Nat)} (h : ∀ e ∈ l, e.2 = 1) : (l.map fun e => decide (1 < e.2)).any id = false := by
  refine Bool.eq_false_iff.mpr fun z => ?_
  obtain ⟨b, hb, e⟩ := List.any_eq_true.mp z
  obtain ⟨x, hx, rfl⟩ := List.mem_map.mp hb
  have := h x hx
  have e' : decide (1 < x.2) = true := e
  have := of_decide_eq_true e'
  omega
theorem ok_kept {f : Addr} {fd : FuncData} (F : Fun K "kept_threes" "kept_threes" sKept f fd) (cP : Cal P w K mg base 2 "plain_threes" spPlain []) (cH : Cal P w K mg base 2 "held_pairs" spHeld []) (zA : mg "any" = none) :
    FnOk P w K mg base CX0 3 f fd ["count", "threes"] spKept := by
  refine F.ok scKept (fun vs H Q E h => ?_) (fun cdv A outer s H vs Q E hr h => ?_)
  · obtain ⟨n, a, ts, rfl, _⟩ := h
    rfl
  · obtain ⟨n, a, ts, rfl, ⟨h1, h2, hT, hd, hlen⟩, hN, k⟩ := h
    have nd := scKept.nd
    refine ⟨_, pss_cons (ps_set (i := 2) nd rfl (.inl rfl) (pe_c cP hr (by decide) rfl (pa_cons (pv 0) (pa_cons (pv 1) pa_nil))))
      (pss_cons (ps_if (pt_val (pe_callB (cr_any rfl) rfl zA (by decide +kernel) (pa_cons
          (pe_lc (own := [("many", 3)]) (g := gName 3) (tt := tYes) rfl nd (pi_valuesT (pe_c cH hr (by decide) rfl (pa_cons (pv 2) pa_nil))) (blkOk_by (N := ["count", "threes", "found", "many"]) (sc := defScope sKept) (by decide +kernel))
            (fun _ _ _ _ _ => pg_name (i := 3) nd rfl (.inl rfl)) (fun _ _ _ _ _ => pts_nil) (fun _ _ _ _ _ => pe_cmpR op_gt (pv 3) pe_int (nomark _))) pa_nil))) (pss_one ps_never) pss_nil)
      (pss_one (ps_ret (pv 2)))), ?_⟩
    refine ⟨_, rfl, _, rfl, n, a, ts, rfl, h1, h2, hT, hd, hlen, fun H1 p s1 hp hTr => ?_⟩
    refine ⟨_, rfl, p, _, rfl, hTr, sorted_len hlen, fun H2 d s2 hdn hd2 => ?_⟩
    refine ⟨d, _, rfl, hd2, fun o => ?_⟩
    intro D hD
    refine many_reads (σ := [some (vI n), some (.ref a), some (.ref p), none]) hD upd_same (tally_hl_len hlen) rfl rfl fun H3 s3 hL => ?_
    refine ⟨D, _, rfl, SqL.of hL, _, rfl, ?_⟩
    rw [none_many fun e he => by
      rw [tally_once hN] at he
      obtain ⟨q, _, rfl⟩ := List.mem_map.mp he
      rfl]
    have s13 : Same H1 H3 := same_frz s2 hdn s3
    exact iteF ⟨_, rfl, k _ p (s1.trans s13) hp (hTr.same s13)⟩
/-- .. refused: the error leaves -/
theorem ok_keptX {f C : Addr} {fd : FuncData} (F : Fun K "kept_threes" "kept_threes" sKept f fd) (T : ErrT K mg C) (cP : Cal P w K mg base 2 "plain_threes" spPlain []) (cH : Cal P w K mg base 2 "held_pairs" spHeld []) (zA : mg "any" = none) :
    FnOk P w K mg base (L2.CX P w) 3 f fd ["count", "threes"] (spKeptX C) := by
  refine F.okX scKept (fun vs H Q E h => ?_) (fun cdv A outer s H vs Q E hr h => ?_)
  · obtain ⟨n, a, ts, rfl, _⟩ := h
    rfl
  · obtain ⟨n, a, ts, rfl, ⟨h1, h2, hT, hd, hlen⟩, hN, k⟩ := h
    have nd := scKept.nd
    refine ⟨_, pss_cons (ps_set (i := 2) nd rfl (.inl rfl) (pe_c cP hr (by decide) rfl (pa_cons (pv 0) (pa_cons (pv 1) pa_nil))))
      (pss_cons (ps_if (pt_val (pe_callB (cr_any rfl) rfl zA (by decide +kernel) (pa_cons
          (pe_lc (own := [("many", 3)]) (g := gName 3) (tt := tYes) rfl nd (pi_valuesT (pe_c cH hr (by decide) rfl (pa_cons (pv 2) pa_nil))) (blkOk_by (N := ["count", "threes", "found", "many"]) (sc := defScope sKept) (by decide +kernel))
            (fun _ _ _ _ _ => pg_name (i := 3) nd rfl (.inl rfl)) (fun _ _ _ _ _ => pts_nil) (fun _ _ _ _ _ => pe_cmpR op_gt (pv 3) pe_int (nomark _))) pa_nil)))
          (pss_one (ps_raise rfl (takes_of rfl rfl rfl rfl) (pmk_own PySem.F.excBase_ValueError T.xP T.gP T.kP (raises_own T.bP T.tP) rfl))) pss_nil)
      pss_never), ?_⟩
    refine ⟨_, rfl, _, rfl, n, a, ts, rfl, h1, h2, hT, hd, hlen, fun H1 p s1 hp hTr => ?_⟩
    refine ⟨_, rfl, p, _, rfl, hTr, sorted_len hlen, fun H2 d s2 hdn hd2 => ?_⟩
    refine ⟨d, _, rfl, hd2, fun o => ?_⟩
    intro D hD
    refine many_reads (σ := [some (vI n), some (.ref a), some (.ref p), none]) hD upd_same (tally_hl_len hlen) rfl rfl fun H3 s3 hL => ?_
    refine ⟨D, _, rfl, SqL.of hL, _, rfl, ?_⟩
    have e1 : ((tally (hl (sortT (ts.map srt)))).map fun e => decide (1 < e.2)).any id = true := by
      rw [List.any_map]
      exact tally_twice hN
    rw [e1]
    exact iteT (k _ (s1.trans (same_frz s2 hdn s3)))
end
end K30
end

section
set_option Elab.async false
set_option autoImplicit false
set_option linter.all false
set_option maxRecDepth 100000
set_option maxHeartbeats 4000000
namespace K30
open PySem L2
/-- a walk, whatever is done at each turn -/
theorem any_it {J : It} {n : Nat} {G : Hp → Prop} {Y : Nat → Hp → V → Hp → Prop} (w : Walk J n G Y) {Body : (Hp → Prop) → V → Hp → Prop} {Qd : Hp → Prop} {H0 : Hp} (Pv : Nat → Hp → Prop) (h0 : Pv 0 H0) (hG : ∀ i H, i ≤ n → Pv i H → G H)
    (hs : ∀ i x H H', i < n → Pv i H → Y i H x H' → Body (Pv (i + 1)) x H') (hd : ∀ H, Pv n H → Qd H) :
    ∃ W : Nat → Nat → Hp → Prop, (∃ m, W 0 m H0) ∧ ∀ i m H, W i m H → (J.stop i H ∧ Qd H) ∨ (J.go i H ∧ ∃ Nx : Hp → Prop, (∀ H', Nx H' → ∃ m', m' < m ∧ W (i + 1) m' H') ∧ ∀ x H', J.yld i H x H' → Body Nx x H') := by
  refine ⟨fun i m H => m = n - i ∧ i ≤ n ∧ Pv i H, ⟨n, by simp, Nat.zero_le _, h0⟩, ?_⟩
  rintro i m H ⟨rfl, hi, p⟩
  have q := hG i H hi p
  by_cases hlt : i < n
  · exact .inr ⟨w.goes i H hlt q, Pv (i + 1), fun H' p' => ⟨n - (i + 1), by omega, rfl, hlt, p'⟩, fun x H' y => hs i x H H' hlt p (w.yields i H x H' hlt q y)⟩
  · have e : i = n := by omega
    subst e
    exact .inl ⟨w.stops H q, hd H p⟩
section
variable {P : Program} {w : World} {K : PySem.W.Frag} {mg : Str → Option Value} {base : Heap}

/-! ### all_pairs -/
def row (n a : Nat) : List Pr := (List.range' (a + 1) (n - (a + 1))).map fun b => (a, b)
theorem allPairs_rows (n : Nat) : allPairs n = (List.range n).flatMap (row n) := rfl
theorem rows_succ (n i : Nat) : (List.range (i + 1)).flatMap (row n) = (List.range i).flatMap (row n) ++ row n i := by
  rw [List.range_succ, List.flatMap_append]
  simp
theorem row_len (n a : Nat) : (row n a).length = n - (a + 1) := by
  unfold row
  rw [List.length_map, List.length_range']
theorem row_at {n a j : Nat} (h : j < n - (a + 1)) : (row n a)[j]? = some (a, a + 1 + j) := by
  unfold row
  rw [List.getElem?_map, List.getElem?_range' h]
  simp
theorem rows_len {n : Nat} (h : n ≤ 60) : ∀ i ≤ n, ((List.range i).flatMap (row n)).length ≤ i * 60
  | 0, _ => Nat.le_refl _
  | i + 1, hi => by
    rw [rows_succ, List.length_append, row_len]
    have := rows_len h i (by omega)
    omega
def spAll : Sp := fun vs H Q _ => ∃ n : Nat, vs = [vI n] ∧ n ≤ 60 ∧ ∀ (H' : Hp) (p : Addr), Same H H' → H p = none → PrL H' p (allPairs n) → Q (.ref p) H'
theorem scAll : FnScope ["count", "a", "b"] ["count"] (defScope sAll) := ⟨rfl, rfl, rfl, by decide +kernel, rfl, by decide +kernel, by decide +kernel⟩
theorem ok_all {f : Addr} {fd : FuncData} (F : Fun K "all_pairs" "all_pairs" sAll f fd) (zR : mg "range" = none) : FnOk P w K mg base CX0 1 f fd ["count"] spAll := by
  refine F.ok scAll (fun vs H Q E h => ?_) (fun cdv A outer s H vs Q E hr h => ?_)
  · obtain ⟨n, rfl, _⟩ := h
    rfl
  · obtain ⟨n, rfl, hn, k⟩ := h
    have nd := scAll.nd
    refine ⟨_, pss_one (ps_ret (pe_lc2 (own := [("a", 1), ("b", 2)]) (vs1 := [2]) (g := gName 1) (g1 := gName 2) (tt := tYes) (tt1 := tYes) rfl nd (pi_range1 (by rfl) zR (pa_cons (pv 0) pa_nil)) (blkOk_by (N := ["count", "a", "b"]) (sc := defScope sAll) (by decide +kernel)) (by decide)
      (fun _ _ _ _ _ => pg_name (i := 1) nd rfl (.inl rfl)) (fun _ _ _ _ _ => pts_nil)
      (fun _ _ _ _ _ => pi_range2 (by rfl) zR (pa_cons (pe_op op_add (pv 1) pe_int) (pa_cons (pv 0) pa_nil)))
      (fun _ _ _ _ _ => pg_name (i := 2) nd rfl (.inl rfl)) (fun _ _ _ _ _ => pts_nil)
      (fun _ _ _ _ _ => pe_tup (pa_cons (pv 1) (pa_cons (pv 2) pa_nil))))), ?_⟩
    refine ⟨_, rfl, _, rfl, by omega, by omega, fun D hD => ?_⟩
    refine any_it walk_range (fun i H' => Same H H' ∧ ∃ ys, H' D = some (.lst ys) ∧ Paired (IsPr H') ys ((List.range i).flatMap (row n))) ⟨same_upd hD, [], upd_same, .nil⟩ (fun _ _ _ _ => trivial) ?_ ?_
    · rintro i x H' H'' hi ⟨sm, ys, hy, hp⟩ ⟨rfl, rfl⟩
      have hi' : i < n := by omega
      refine ⟨rfl, ?_⟩
      refine ⟨_, rfl, _, _, rfl, rfl, _, rfl, _, _, rfl, ⟨by omega, by omega, by omega, by omega⟩, ?_⟩
      have e1 : ((n : Int) - (0 + (i : Int) + 1)).toNat = n - (i + 1) := by omega
      refine any_it walk_range (fun j H2 => Same H H2 ∧ ∃ ys, H2 D = some (.lst ys) ∧ Paired (IsPr H2) ys ((List.range i).flatMap (row n) ++ (row n i).take j)) ⟨sm, ys, hy, by rw [List.take_zero, List.append_nil]; exact hp⟩ (fun _ _ _ _ => trivial) ?_ ?_
      · rintro j x H2 H3 hj ⟨sm2, ys2, hy2, hp2⟩ ⟨rfl, rfl⟩
        rw [e1] at hj
        refine ⟨rfl, ?_⟩
        refine ⟨_, rfl, _, rfl, ln, fun q hq => ?_⟩
        have sq := same_upd (o := .tup [V.int (0 + (i : Int)), V.int (0 + (i : Int) + 1 + (j : Int))]) hq
        have l2 : ys2.length ≤ 100000 := by
          have a1 := Paired.length hp2
          have a2 := rows_len hn i (by omega)
          have a3 := row_len n i
          rw [List.length_append, List.length_take] at a1
          have a4 : i * 60 ≤ 60 * 60 := Nat.mul_le_mul_right 60 (by omega)
          omega
        refine ⟨ys2, sq _ _ hy2, lt_ln l2, same_back (sm2.trans sq) hD, _, upd_same, ?_⟩
        have tp := (Tups.of sq).trans (tups_upd (o' := .lst (ys2 ++ [.ref q])) (sq _ _ hy2) fun _ z => nomatch z)
        rw [take_more (row_at hj), ← List.append_assoc]
        refine paired_snoc (prs_tups hp2 tp) ⟨q, rfl, ?_⟩
        have hq2 : upd H3 q (.tup [V.int (0 + (i : Int)), V.int (0 + (i : Int) + 1 + (j : Int))]) q = some (.tup (prV (i, i + 1 + j))) := by
          rw [upd_same]
          have b1 : (0 + (i : Int)) = ((i : Nat) : Int) := by omega
          have b2 : (0 + (i : Int) + 1 + (j : Int)) = ((i + 1 + j : Nat) : Int) := by omega
          rw [b2, b1]
          rfl
        exact tups_upd (sq _ _ hy2) (fun _ z => nomatch z) _ _ hq2
      · rintro H2 ⟨sm2, ys2, hy2, hp2⟩
        rw [e1, List.take_of_length_le (by rw [row_len]; exact Nat.le_refl _)] at hp2
        exact ⟨sm2, ys2, hy2, by rw [rows_succ]; exact hp2⟩
    · rintro H' ⟨sm, ys, hy, hp⟩
      exact k H' D sm hD ⟨ys, hy, hp⟩

/-! ### open_of -/
def spOpen : Sp := fun vs H Q _ => ∃ (n : Nat) (d : Addr) (kvs : List (List Key × V)) (L : List Pr), vs = [vI n, .ref d] ∧ n ≤ 60 ∧ H d = some (.dT kvs) ∧ (∀ p : Pr, (valV kvs (prK p)).isSome = decide (p ∈ L)) ∧
  ∀ (H' : Hp) (p : Addr), Same H H' → H p = none → PrL H' p (openOf n L) → Q (.ref p) H'
theorem scOpen : FnScope ["count", "held", "pair"] ["count", "held"] (defScope sOpen) := ⟨rfl, rfl, rfl, by decide +kernel, rfl, by decide +kernel, by decide +kernel⟩
theorem allPairs_len {n : Nat} (h : n ≤ 60) : (allPairs n).length ≤ 3600 := by
  have := rows_len h n (Nat.le_refl _)
  have a4 : n * 60 ≤ 60 * 60 := Nat.mul_le_mul_right 60 h
  rw [allPairs_rows]
  omega
theorem ok_open {f : Addr} {fd : FuncData} (F : Fun K "open_of" "open_of" sOpen f fd) (cA : Cal P w K mg base 1 "all_pairs" spAll []) : FnOk P w K mg base CX0 2 f fd ["count", "held"] spOpen := by
  refine F.ok scOpen (fun vs H Q E h => ?_) (fun cdv A outer s H vs Q E hr h => ?_)
  · obtain ⟨n, d, kvs, L, rfl, _⟩ := h
    rfl
  · obtain ⟨n, d, kvs, L, rfl, hn, hd, hk, k⟩ := h
    have nd := scOpen.nd
    refine ⟨_, pss_one (ps_ret (pe_lc (own := [("pair", 2)]) (g := gName 2) rfl nd (pi_list (pe_c cA hr (by decide) (by rfl) (pa_cons (pv 0) pa_nil))) (blkOk_by (N := ["count", "held", "pair"]) (sc := defScope sOpen) (by decide +kernel))
      (fun _ _ _ _ _ => pg_name (i := 2) nd rfl (.inl rfl)) (fun _ _ _ _ _ => pts_one (pt_cmp (pc_dnotin (hu_of hr) (pv 2) (pv 1)))) (fun _ _ _ _ _ => pv 2))), ?_⟩
    refine ⟨_, rfl, n, rfl, hn, fun H1 l s1 hl0 hL => ?_⟩
    obtain ⟨xs, hx, hp⟩ := hL
    refine ⟨l, rfl, ⟨xs, SqL.of hx⟩, fun D hD => ?_⟩
    have hlD : l ≠ D := ne_of_none hx hD
    refine lc_list (K := K) (a := l) (xs := xs) (fun i H' => Same H1 H' ∧ ∃ ys, H' D = some (.lst ys) ∧ Paired (IsPr H') ys (((allPairs n).take i).filter fun p => decide (p ∉ L)))
      ⟨same_upd hD, [], upd_same, .nil⟩ (fun i H' _ h => SqL.of (h.1 _ _ hx)) ?_ ?_
    · rintro i x H' hi ⟨sm, ys, hy, hpy⟩
      obtain ⟨p, hpi, hxp⟩ := paired_at hp hi
      obtain ⟨b, rfl, hb⟩ := hxp.same sm
      refine ⟨rfl, ?_⟩
      have g := DGet.t (k := prK p) (sm _ _ (s1 _ _ hd)) hb
      rw [take_more hpi, List.filter_append]
      refine ⟨_, rfl, _, rfl, d, _, rfl, g, _, rfl, ?_⟩
      rw [hk p]
      by_cases c : p ∈ L
      · rw [decide_eq_true c]
        refine iteF ⟨sm, ys, hy, ?_⟩
        rw [List.filter_cons_of_neg (by simpa using c), List.filter_nil, List.append_nil]
        exact hpy
      · rw [decide_eq_false c]
        refine iteT ⟨_, rfl, ys, hy, ?_, same_back sm hD, _, upd_same, ?_⟩
        · have a1 := Paired.length hpy
          have a2 := List.length_filter_le (fun p => decide (p ∉ L)) ((allPairs n).take i)
          have a3 := allPairs_len hn
          rw [List.length_take] at a2
          exact lt_ln (by omega)
        · have tp : Tups H' (upd H' D (.lst (ys ++ [.ref b]))) := tups_upd hy fun _ z => nomatch z
          rw [List.filter_cons_of_pos (by simpa using c), List.filter_nil]
          exact paired_snoc (prs_tups hpy tp) ⟨b, rfl, tp _ _ hb⟩
    · rintro H' ⟨sm, ys, hy, hpy⟩
      rw [Paired.length hp, List.take_length] at hpy
      exact k H' D (s1.trans sm) (s1.free hD) ⟨ys, hy, hpy⟩
end
end K30
end

section
set_option Elab.async false
set_option autoImplicit false
set_option linter.all false
set_option maxRecDepth 100000
set_option maxHeartbeats 4000000
namespace K30
open PySem L2
/-! ### which pairs a dict holds -/
theorem tally_keys (ps : List Pr) (p : Pr) : p ∈ (tally ps).map (·.1) ↔ p ∈ ps := by
  have : ∀ (ps : List Pr) (l : List (Pr × Nat)), p ∈ (ps.foldl bump l).map (·.1) ↔ p ∈ l.map (·.1) ∨ p ∈ ps := by
    intro ps
    induction ps with
    | nil => intro l; simp
    | cons q ps ih =>
      intro l
      rw [List.foldl_cons, ih, keys_bump, List.mem_cons]
      by_cases h : q ∈ l.map (·.1)
      · rw [if_pos h]
        constructor
        · rintro (a | a)
          · exact .inl a
          · exact .inr (.inr a)
        · rintro (a | rfl | a)
          · exact .inl a
          · exact .inl h
          · exact .inr a
      · rw [if_neg h, List.mem_append, List.mem_singleton, or_assoc]
  have := this ps []
  simpa [tally] using this
theorem has_keys (l : List (Pr × Nat)) (p : Pr) : (valV (l.map kvN) (prK p)).isSome = decide (p ∈ l.map (·.1)) := by
  rw [valV_kvN]
  cases e : cnt l p with
  | none => rw [decide_eq_false (cnt_none.mp e)]; rfl
  | some n =>
    rw [decide_eq_true (Classical.byContradiction fun c => by rw [cnt_none.mpr c] at e; cases e)]
    rfl
theorem tally_has (ps : List Pr) (p : Pr) : (valV ((tally ps).map kvN) (prK p)).isSome = decide (p ∈ ps) := by
  rw [has_keys]
  exact decide_eq_decide.mpr (tally_keys ps p)
theorem kv1_has (L : List Pr) (p : Pr) : (valV (L.map kv1) (prK p)).isSome = decide (p ∈ L) := by
  rw [← kv_once, has_keys, List.map_map]
  have : L.map ((fun x : Pr × Nat => x.1) ∘ fun p => (p, 1)) = L := (List.map_congr_left fun _ _ => rfl).trans (List.map_id L)
  rw [this]
section
variable {P : Program} {w : World} {K : PySem.W.Frag} {mg : Str → Option Value} {base : Heap}

/-! ### open_pairs -/
def spOpairs : Sp := fun vs H Q _ => ∃ (n : Nat) (a : Addr) (ts : List Tri), vs = [vI n, .ref a] ∧ Raw H n a ts ∧ (hl (sortT (ts.map srt))).Nodup ∧
  ∀ (H' : Hp) (p : Addr), Same H H' → H p = none → PrL H' p (openOf n (hl (sortT (ts.map srt)))) → Q (.ref p) H'
theorem scOpairs : FnScope ["count", "threes"] ["count", "threes"] (defScope sOpairs) := ⟨rfl, rfl, rfl, by decide +kernel, rfl, by decide +kernel, by decide +kernel⟩
theorem ok_opairs {f : Addr} {fd : FuncData} (F : Fun K "open_pairs" "open_pairs" sOpairs f fd) (cO : Cal P w K mg base 2 "open_of" spOpen []) (cH : Cal P w K mg base 2 "held_pairs" spHeld []) (cK : Cal P w K mg base 3 "kept_threes" spKept []) :
    FnOk P w K mg base CX0 4 f fd ["count", "threes"] spOpairs := by
  refine F.ok scOpairs (fun vs H Q E h => ?_) (fun cdv A outer s H vs Q E hr h => ?_)
  · obtain ⟨n, a, ts, rfl, _⟩ := h
    rfl
  · obtain ⟨n, a, ts, rfl, hR, hN, k⟩ := h
    refine ⟨_, pss_one (ps_ret (pe_c cO hr (by decide) (by rfl) (pa_cons (pv 0) (pa_cons (pe_c cH hr (by decide) (by rfl) (pa_cons (pe_c cK hr (by decide) (by rfl) (pa_cons (pv 0) (pa_cons (pv 1) pa_nil))) pa_nil)) pa_nil)))), ?_⟩
    refine ⟨_, rfl, _, rfl, _, rfl, n, a, ts, rfl, hR, hN, fun H1 p s1 hp hT => ?_⟩
    refine ⟨p, _, rfl, hT, sorted_len hR.2.2.2.2, fun H2 d s2 hd hd2 => ?_⟩
    refine ⟨n, d, _, hl (sortT (ts.map srt)), rfl, hR.2.1, hd2, fun q => tally_has _ q, fun H3 l s3 hl0 hL => ?_⟩
    exact k H3 l (s1.trans (s2.trans s3)) (s1.free (s2.free hl0)) hL

/-! ### thirds_of -/
def spThirds : Sp := fun vs H Q _ => ∃ (n : Nat) (d q : Addr) (kvs : List (List Key × V)) (L : List Pr) (p : Pr), vs = [vI n, .ref d, .ref q] ∧ n ≤ 60 ∧ H d = some (.dT kvs) ∧ (∀ p : Pr, (valV kvs (prK p)).isSome = decide (p ∈ L)) ∧ H q = some (.tup (prV p)) ∧
  ∀ (H' : Hp) (l : Addr), Same H H' → H l = none → H' l = some (.lst ((thirdsOf n L p).map vI)) → Q (.ref l) H'
theorem scThirds : FnScope ["count", "held", "pair", "a", "b", "found", "c"] ["count", "held", "pair"] (defScope sThirds) := ⟨rfl, rfl, rfl, by decide +kernel, rfl, by decide +kernel, by decide +kernel⟩
theorem minI (a c : Nat) : (V.int (if (c : Int) < (a : Int) then (c : Int) else (a : Int))) = vI (min a c) := by
  unfold vI
  congr 1
  by_cases h : c < a
  · rw [if_pos (by omega)]; omega
  · rw [if_neg (by omega)]; omega
theorem maxI (a c : Nat) : (V.int (if (c : Int) > (a : Int) then (c : Int) else (a : Int))) = vI (max a c) := by
  unfold vI
  congr 1
  by_cases h : c > a
  · rw [if_pos (by omega)]; omega
  · rw [if_neg (by omega)]; omega
theorem neI (a c : Nat) : (!decide (V.int (c : Int) = V.int (a : Int))) = decide (c ≠ a) := by
  by_cases h : c = a
  · rw [h]; simp
  · rw [decide_eq_true h, decide_eq_false (fun z => h (by injection z with z; omega))]
    rfl
theorem ok_thirds {f : Addr} {fd : FuncData} (F : Fun K "thirds_of" "thirds_of" sThirds f fd) (zR : mg "range" = none) (zMi : mg "min" = none) (zMa : mg "max" = none) : FnOk P w K mg base CX0 1 f fd ["count", "held", "pair"] spThirds := by
  refine F.ok scThirds (fun vs H Q E h => ?_) (fun cdv A outer s H vs Q E hr h => ?_)
  · obtain ⟨n, d, q, kvs, L, p, rfl, _⟩ := h
    rfl
  · obtain ⟨n, d, q, kvs, L, p, rfl, hn, hd, hk, hq, k⟩ := h
    have nd := scThirds.nd
    refine ⟨_, pss_cons (ps_asg (pv 2) (pg_tup rfl (pgs_cons (pg_name (i := 3) nd rfl (.inl rfl)) (pgs_cons (pg_name (i := 4) nd rfl (.inl rfl)) pgs_nil))))
      (pss_cons (ps_set (i := 5) nd rfl (.inl rfl) (pe_lst pa_nil))
      (pss_cons (ps_for PassesOwn.never rfl (pi_range1 (by rfl) zR (pa_cons (pv 0) pa_nil)) (pg_name (i := 6) nd rfl (.inl rfl))
        (pss_one (ps_if (PW.pt (pw_and (pt_cmpR op_ne (pv 6) (pv 3) (nomark _)) (pw_and (pt_cmpR op_ne (pv 6) (pv 4) (nomark _))
            (pw_and (pt_cmp (pc_dnotin (hu_of hr) (pe_tup (pa_cons (pe_callB (call_min2 rfl) (by rfl) zMi (by decide +kernel) (pa_cons (pv 3) (pa_cons (pv 6) pa_nil))) (pa_cons (pe_callB (call_max2 rfl) (by rfl) zMa (by decide +kernel) (pa_cons (pv 3) (pa_cons (pv 6) pa_nil))) pa_nil))) (pv 1)))
              (pw_and1 (pt_cmp (pc_dnotin (hu_of hr) (pe_tup (pa_cons (pe_callB (call_min2 rfl) (by rfl) zMi (by decide +kernel) (pa_cons (pv 4) (pa_cons (pv 6) pa_nil))) (pa_cons (pe_callB (call_max2 rfl) (by rfl) zMa (by decide +kernel) (pa_cons (pv 4) (pa_cons (pv 6) pa_nil))) pa_nil))) (pv 1))))))))
          (pss_one (ps_expr (pe_bm PySem.F.plainAttrs_list PySem.F.slot_list_append PySem.F.type_list_append mt_append (pv 5) (pa_cons (pv 6) pa_nil)))) pss_nil)))
      (pss_one (ps_ret (pv 5))))), ?_⟩
    obtain ⟨a, b⟩ := p
    refine ⟨_, rfl, q, _, rfl, SqT.of hq, rfl, _, _, rfl, _, _, rfl, rfl, ?_⟩
    refine ⟨ln, fun l hl0 => ?_⟩
    refine ⟨_, rfl, _, rfl, by omega, by omega, ?_⟩
    refine for_range (lo := 0) (fun i σ H' => ∃ v6 : Option V, σ = [some (vI n), some (.ref d), some (.ref q), some (vI a), some (vI b), some (.ref l), v6] ∧ Same H H' ∧ H' l = some (.lst ((((List.range n).take i).filter fun c => decide (c ≠ a ∧ c ≠ b ∧ op a c ∉ L ∧ op b c ∉ L)).map vI)))
      ⟨none, rfl, same_upd hl0, upd_same⟩ ?_ ?_
    · rintro i σ H' hi ⟨v6, rfl, sm, hl'⟩
      have hin : i < n := by omega
      have e0 : V.int (0 + (i : Int)) = vI i := by unfold vI; congr 1; omega
      have hri : (List.range n)[i]? = some i := by rw [List.getElem?_range hin]
      rw [e0]
      have fin : ∀ (c : Prop) [Decidable c], ¬ (i ≠ a ∧ i ≠ b ∧ op a i ∉ L ∧ op b i ∉ L) → ∀ H2, Same H' H2 → ∃ v6 : Option V, ([some (vI n), some (.ref d), some (.ref q), some (vI a), some (vI b), some (.ref l), some (vI i)] : St) = [some (vI n), some (.ref d), some (.ref q), some (vI a), some (vI b), some (.ref l), v6] ∧ Same H H2 ∧
          H2 l = some (.lst ((((List.range n).take (i + 1)).filter fun c => decide (c ≠ a ∧ c ≠ b ∧ op a c ∉ L ∧ op b c ∉ L)).map vI)) := by
        intro _ _ hc H2 s2
        refine ⟨_, rfl, sm.trans s2, ?_⟩
        rw [take_more hri, List.filter_append, List.filter_cons_of_neg (by simpa using hc), List.filter_nil, List.append_nil]
        exact s2 _ _ hl'
      refine ⟨_, rfl, _, rfl, rfl, _, rfl, ?_⟩
      show if (!decide (V.int (i : Int) = V.int (a : Int))) = true then _ else _
      rw [neI]
      by_cases c1 : i ≠ a
      rotate_left
      · rw [decide_eq_false c1]
        exact iteF (fin True (fun z => c1 z.1) H' (Same.refl _))
      rw [decide_eq_true c1]
      refine iteT ?_
      refine ⟨_, rfl, _, rfl, rfl, _, rfl, ?_⟩
      show if (!decide (V.int (i : Int) = V.int (b : Int))) = true then _ else _
      rw [neI]
      by_cases c2 : i ≠ b
      rotate_left
      · rw [decide_eq_false c2]
        exact iteF (fin True (fun z => c2 z.2.1) H' (Same.refl _))
      rw [decide_eq_true c2]
      refine iteT ?_
      -- the two pairs
      refine ⟨_, rfl, _, rfl, _, _, rfl, _, rfl, _, rfl, _, _, rfl, ln, fun t1 ht1 => ?_⟩
      rw [minI, maxI]
      have s1 := same_upd (o := .tup [vI (min a i), vI (max a i)]) ht1
      have g1 := DGet.t (k := prK (op a i)) (s1 _ _ (sm _ _ hd)) (show upd H' t1 (.tup [vI (min a i), vI (max a i)]) t1 = some (.tup ((prK (op a i)).map kV)) from upd_same)
      refine ⟨_, rfl, d, _, rfl, g1, _, rfl, ?_⟩
      rw [hk]
      by_cases c3 : op a i ∈ L
      · rw [decide_eq_true c3]
        exact iteF (fin True (fun z => z.2.2.1 c3) _ s1)
      rw [decide_eq_false c3]
      refine iteT ?_
      refine ⟨_, rfl, _, rfl, _, _, rfl, _, rfl, _, rfl, _, _, rfl, ln, fun t2 ht2 => ?_⟩
      rw [minI, maxI]
      have s2 := same_upd (o := .tup [vI (min b i), vI (max b i)]) ht2
      have g2 := DGet.t (k := prK (op b i)) (s2 _ _ (s1 _ _ (sm _ _ hd))) (show upd (upd H' t1 (.tup [vI (min a i), vI (max a i)])) t2 (.tup [vI (min b i), vI (max b i)]) t2 = some (.tup ((prK (op b i)).map kV)) from upd_same)
      refine ⟨_, rfl, d, _, rfl, g2, _, rfl, ?_⟩
      rw [hk]
      by_cases c4 : op b i ∈ L
      · rw [decide_eq_true c4]
        exact iteF (fin True (fun z => z.2.2.2 c4) _ (s1.trans s2))
      rw [decide_eq_false c4]
      refine iteT ?_
      have s12 := s1.trans s2
      have hlen : ((((List.range n).take i).filter fun c => decide (c ≠ a ∧ c ≠ b ∧ op a c ∉ L ∧ op b c ∉ L)).map vI).length < sizeLine := by
        rw [List.length_map]
        have a2 := List.length_filter_le (fun c => decide (c ≠ a ∧ c ≠ b ∧ op a c ∉ L ∧ op b c ∉ L)) ((List.range n).take i)
        rw [List.length_take] at a2
        exact lt_ln (by omega)
      refine ⟨_, rfl, .inl ⟨rfl, _, SqL.of (s12 _ _ hl')⟩, _, rfl, l, _, _, rfl, rfl, s12 _ _ hl', hlen, ?_⟩
      refine ⟨_, rfl, same_back (sm.trans s12) hl0, ?_⟩
      rw [upd_same, take_more hri, List.filter_append, List.filter_cons_of_pos (by simpa using ⟨c1, c2, c3, c4⟩), List.filter_nil, List.map_append]
      rfl
    · rintro σ H' ⟨v6, rfl, sm, hl'⟩
      refine ⟨_, rfl, k H' l sm hl0 ?_⟩
      rw [List.take_of_length_le (by rw [List.length_range]; omega)] at hl'
      exact hl'
end
end K30
end

section
set_option Elab.async false
set_option autoImplicit false
set_option linter.all false
set_option maxRecDepth 100000
set_option maxHeartbeats 4000000
namespace K30
open PySem L2
theorem walk_keysT {d : Addr} {o : Obj} {kvs : List (List Key × V)} : Walk (Itkt d o kvs) kvs.length (fun H => H d = some (.frz o (.dT kvs))) (fun i H x H' => H' = H ∧ ∃ (k : List Key) (v : V) (q : Addr), kvs[i]? = some (k, v) ∧ x = .ref q ∧ H q = some (.tup (k.map kV))) :=
  ⟨fun i _ hi q => ⟨q, hi⟩, fun _ q => ⟨q, Nat.le_refl _⟩, fun _ _ _ _ _ q y => y⟩
section
variable {P : Program} {w : World} {K : PySem.W.Frag} {mg : Str → Option Value} {base : Heap}

/-! ### first_fault, of a whole system -/
def spFault : Sp := fun vs H Q _ => ∃ (n : Nat) (a : Addr) (ts : List Tri), vs = [vI n, .ref a] ∧ Raw H n a ts ∧ Whole n (sortT (ts.map srt)) ∧ ∀ H' : Hp, Same H H' → Q .non H'
theorem scFault : FnScope ["count", "threes", "held", "word", "wrong", "pair"] ["count", "threes"] (defScope sFault) := ⟨rfl, rfl, rfl, by decide +kernel, rfl, by decide +kernel, by decide +kernel⟩
theorem ok_fault {f : Addr} {fd : FuncData} (F : Fun K "first_fault" "first_fault" sFault f fd) (cO : Cal P w K mg base 2 "open_of" spOpen []) (cH : Cal P w K mg base 2 "held_pairs" spHeld []) (cP : Cal P w K mg base 2 "plain_threes" spPlain []) :
    FnOk P w K mg base CX0 3 f fd ["count", "threes"] spFault := by
  refine F.ok scFault (fun vs H Q E h => ?_) (fun cdv A outer s H vs Q E hr h => ?_)
  · obtain ⟨n, a, ts, rfl, _⟩ := h
    rfl
  · obtain ⟨n, a, ts, rfl, ⟨h1, h2, hT, hd, hlen⟩, hW, k⟩ := h
    have nd := scFault.nd
    refine ⟨_, pss_cons (ps_set (i := 2) nd rfl (.inr rfl) (pe_c cH hr (by decide) (by rfl) (pa_cons (pe_c cP hr (by decide) (by rfl) (pa_cons (pv 0) (pa_cons (pv 1) pa_nil))) pa_nil)))
      (pss_cons (ps_for PassesOwn.never rfl (pi_tup (pe_tup (pa_cons (pe_tup (pa_cons pe_str (pa_cons
            (pe_lock (pe_lc (own := [("pair", 5)]) (g := gName 5) rfl nd (pi_keys (pv 2)) (blkOk_by (N := ["count", "threes", "held", "word", "wrong", "pair"]) (sc := defScope sFault) (by decide +kernel))
              (fun _ _ _ _ _ => pg_name (i := 5) nd rfl (.inl rfl)) (fun _ _ _ _ _ => pts_one (pt_cmpR op_gt (pe_dget (hu_of hr) (pv 2) (pv 5) (fun _ _ => rfl)) pe_int (nomark _))) (fun _ _ _ _ _ => pv 5))) pa_nil)))
          (pa_cons (pe_tup (pa_cons pe_str (pa_cons (pe_c cO hr (by decide) (by rfl) (pa_cons (pv 0) (pa_cons (pv 2) pa_nil))) pa_nil))) pa_nil))))
          (pg_tup rfl (pgs_cons (pg_name (i := 3) nd rfl (.inl rfl)) (pgs_cons (pg_name (i := 4) nd rfl (.inl rfl)) pgs_nil)))
          (pss_one (ps_if (pt_truth (pv 4) (by intro _; rfl)) (pss_one ps_never) pss_nil)))
      (pss_one (ps_ret pe_non))), ?_⟩
    refine ⟨_, rfl, _, rfl, n, a, ts, rfl, h1, h2, hT, hd, hlen, fun H1 p s1 hp hTr => ?_⟩
    refine ⟨p, _, rfl, hTr, sorted_len hlen, fun H2 d s2 hdn hd2 => ?_⟩
    have hN := hW.nd
    -- the pairs met twice: none
    refine ⟨d, _, hd2, trivial, fun od => ?_⟩
    refine ⟨_, rfl, d, od, rfl, .inr ⟨_, upd_same, fun D hD => ?_⟩⟩
    refine any_it walk_keysT (fun i H' => Same (upd H2 d (.frz od (.dT ((tally (hl (sortT (ts.map srt)))).map kvN)))) H' ∧ H' D = some (.lst [])) ⟨same_upd hD, upd_same⟩ (fun i H' _ h => h.1 _ _ upd_same) ?_ ?_
    · rintro i x H3 H4 hi ⟨s3, hD3⟩ ⟨rfl, kk, v, q, hkv, rfl, hq⟩
      refine ⟨rfl, ?_⟩
      have hkv' := hkv
      rw [tally_once hN, kv_once, List.getElem?_map] at hkv'
      obtain ⟨pr, hpr, epr⟩ := Option.map_eq_some_iff.mp hkv'
      have e1 : prK pr = kk := congrArg Prod.fst epr
      have e2 : V.int 1 = v := congrArg Prod.snd epr
      subst e1 e2
      have hmem : pr ∈ hl (sortT (ts.map srt)) := List.mem_of_getElem? hpr
      have g : DGet H4 d (.ref q) (some (.int 1)) := by
        refine .inr ⟨_, prK pr, q, .inr ⟨od, s3 _ _ upd_same⟩, rfl, hq, ?_⟩
        rw [valV_kvN, tally_once hN]
        have : ∀ l : List Pr, pr ∈ l → cnt (l.map fun p => (p, 1)) pr = some 1 := by
          intro l
          induction l with
          | nil => intro h; exact nomatch h
          | cons x l ih =>
            intro h
            rw [List.map_cons]
            unfold cnt
            by_cases c : x = pr
            · rw [if_pos c]
            · rw [if_neg c]
              exact ih ((List.mem_cons.mp h).resolve_left (fun z => c z.symm))
        rw [this _ hmem]
        rfl
      refine ⟨_, rfl, _, rfl, d, _, rfl, g, _, _, rfl, rfl, _, rfl, ?_⟩
      rw [decide_eq_false (show ¬ (1 : Int) < 1 by omega)]
      exact iteF ⟨s3, hD3⟩
    rintro H3 ⟨s3, hD3⟩
    have hdD : d ≠ D := ne_of_none (upd_same (H := H2)) hD
    refine ⟨s3 _ _ upd_same, ?_⟩
    -- the dict as it was
    have sB : Same H2 (upd H3 d (.dT ((tally (hl (sortT (ts.map srt)))).map kvN))) := fun b u e => by
      by_cases hb : b = d
      · rw [hb] at e ⊢
        rw [upd_same, ← hd2, e]
      · rw [upd_ne hb]
        exact s3 _ _ (by rw [upd_ne hb]; exact e)
    have hD4 : upd H3 d (.dT ((tally (hl (sortT (ts.map srt)))).map kvN)) D = some (.lst []) := by rw [upd_ne hdD.symm]; exact hD3
    refine ⟨ln, fun t1 ht1 => ?_⟩
    have s4 := same_upd (o := .tup [V.str "twice", .ref D]) ht1
    refine ⟨_, rfl, _, rfl, ?_⟩
    refine ⟨n, d, _, hl (sortT (ts.map srt)), rfl, h2, s4 _ _ (sB _ _ hd2), fun q => tally_has _ q, fun H5 l s5 hl0 hL => ?_⟩
    rw [hW.open] at hL
    obtain ⟨xs, hx, hpx⟩ := hL
    cases hpx
    refine ⟨ln, fun t2 ht2 => ⟨ln, fun t3 ht3 => ?_⟩⟩
    have s6 := same_upd (o := .tup [V.str "missing", .ref l]) ht2
    have s7 := same_upd (o := .tup [V.ref t1, .ref t2]) ht3
    refine ⟨t3, rfl, ⟨_, SqT.of upd_same⟩, ?_⟩
    have k1 := s7 _ _ (s6 _ _ (s5 _ _ (upd_same (H := upd H3 d (.dT ((tally (hl (sortT (ts.map srt)))).map kvN))) (a := t1) (o := .tup [V.str "twice", .ref D]))))
    have kD := s7 _ _ (s6 _ _ (s5 _ _ (s4 _ _ hD4)))
    have k2 := s7 _ _ (upd_same (H := H5) (a := t2) (o := .tup [V.str "missing", .ref l]))
    have kl := s7 _ _ (s6 _ _ hx)
    have sAll := s1.trans (s2.trans (sB.trans (s4.trans (s5.trans (s6.trans s7)))))
    generalize hG : upd (upd H5 t2 (.tup [V.str "missing", .ref l])) t3 (.tup [V.ref t1, .ref t2]) = G at *
    have kt : G t3 = some (.tup [V.ref t1, .ref t2]) := by rw [← hG]; exact upd_same
    refine for_tup (K := K) (a := t3) (xs := [.ref t1, .ref t2]) (fun i σ H' => ∃ v3 v4 : Option V, σ = [some (vI n), some (.ref a), some (.ref d), v3, v4, none] ∧ H' = G) ⟨none, none, rfl, rfl⟩ (fun i σ H' _ ⟨_, _, _, e⟩ => by rw [e]; exact SqT.of kt) ?_ ?_
    · rintro i x σ H' hi ⟨v3, v4, rfl, rfl⟩
      match i, hi with
      | 0, hi =>
        obtain rfl : V.ref t1 = x := Option.some.inj hi
        refine ⟨t1, _, rfl, SqT.of k1, rfl, _, _, rfl, _, _, rfl, rfl, ?_⟩
        exact ⟨_, rfl, _, .inl ⟨[], SqL.of kD, rfl⟩, ⟨_, _, rfl, rfl⟩⟩
      | 1, hi =>
        obtain rfl : V.ref t2 = x := Option.some.inj hi
        refine ⟨t2, _, rfl, SqT.of k2, rfl, _, _, rfl, _, _, rfl, rfl, ?_⟩
        exact ⟨_, rfl, _, .inl ⟨[], SqL.of kl, rfl⟩, ⟨_, _, rfl, rfl⟩⟩
      | i + 2, hi => simp at hi
    · rintro σ H' ⟨v3, v4, rfl, rfl⟩
      exact k _ sAll

/-! ### is_whole -/
def spWhole : Sp := fun vs H Q _ => ∃ (n : Nat) (a : Addr) (ts : List Tri), vs = [vI n, .ref a] ∧ Raw H n a ts ∧ Whole n (sortT (ts.map srt)) ∧ ∀ H' : Hp, Same H H' → Q (.bl true) H'
theorem scWhole : FnScope ["count", "threes"] ["count", "threes"] (defScope sWhole) := ⟨rfl, rfl, rfl, by decide +kernel, rfl, by decide +kernel, by decide +kernel⟩
theorem ok_whole {f : Addr} {fd : FuncData} (F : Fun K "is_whole" "is_whole" sWhole f fd) (cF : Cal P w K mg base 3 "first_fault" spFault []) : FnOk P w K mg base CX0 4 f fd ["count", "threes"] spWhole := by
  refine F.ok scWhole (fun vs H Q E h => ?_) (fun cdv A outer s H vs Q E hr h => ?_)
  · obtain ⟨n, a, ts, rfl, _⟩ := h
    rfl
  · obtain ⟨n, a, ts, rfl, hR, hW, k⟩ := h
    refine ⟨_, pss_one (ps_ret (pe_cmpR op_isN (pe_c cF hr (by decide) (by rfl) (pa_cons (pv 0) (pa_cons (pv 1) pa_nil))) pe_non (nomark _))), ?_⟩
    exact ⟨_, rfl, _, rfl, n, a, ts, rfl, hR, hW, fun H' s1 => ⟨rfl, k H' s1⟩⟩
end
end K30
end

section
set_option Elab.async false
set_option autoImplicit false
set_option linter.all false
set_option maxRecDepth 100000
set_option maxHeartbeats 4000000
namespace K30
open PySem L2
/-- how often each point below n lies in some pairs -/
def degs (n : Nat) (ps : List Pr) : List Nat := (List.range n).map fun x => ps.countP (has x)
theorem degs_len (n : Nat) (ps : List Pr) : (degs n ps).length = n := by
  unfold degs
  rw [List.length_map, List.length_range]
theorem degs_at {n x : Nat} {ps : List Pr} (h : x < n) : (degs n ps)[x]? = some (ps.countP (has x)) := by
  unfold degs
  rw [List.getElem?_map, List.getElem?_range h]
  rfl
theorem degs_step {n : Nat} {ps : List Pr} {a b : Nat} (hab : a < b) (hb : b < n) :
    ((degs n ps).set a ((ps.countP (has a)) + 1)).set b ((ps.countP (has b)) + 1) = degs n (ps ++ [(a, b)]) := by
  refine List.ext_getElem (by rw [List.length_set, List.length_set, degs_len, degs_len]) fun x h1 h2 => ?_
  have hx : x < n := by rw [degs_len] at h2; exact h2
  have e2 : (degs n (ps ++ [(a, b)]))[x] = ps.countP (has x) + [(a, b)].countP (has x) := by
    have := degs_at (ps := ps ++ [(a, b)]) hx
    rw [List.getElem?_eq_getElem h2, List.countP_append] at this
    exact Option.some.inj this
  have e3 : (degs n ps)[x]'(by rw [degs_len]; exact hx) = ps.countP (has x) := by
    have := degs_at (ps := ps) hx
    rw [List.getElem?_eq_getElem (by rw [degs_len]; exact hx)] at this
    exact Option.some.inj this
  rw [e2, List.getElem_set, List.getElem_set, e3]
  have hc : [(a, b)].countP (has x) = if a = x ∨ b = x then 1 else 0 := by
    by_cases c : a = x ∨ b = x
    · rw [if_pos c]; simp [has, c]
    · rw [if_neg c]; simp [has, c]
  rw [hc]
  by_cases cb : b = x
  · rw [if_pos cb, if_pos (.inr cb), cb]
  · rw [if_neg cb]
    by_cases ca : a = x
    · rw [if_pos ca, if_pos (.inl ca), ca]
    · rw [if_neg ca, if_neg (fun z => z.elim ca cb)]
      rfl
theorem degs_nil (n : Nat) : (degs n []).map vI = (List.replicate n [V.int 0]).flatten := by
  unfold degs
  have : ∀ m, ((List.range m).map fun x => ([] : List Pr).countP (has x)).map vI = (List.replicate m [V.int 0]).flatten := by
    intro m
    induction m with
    | zero => rfl
    | succ m ih =>
      rw [List.range_succ, List.map_append, List.map_append, ih, List.replicate_succ', List.flatten_append]
      rfl
  exact this n
section
variable {P : Program} {w : World} {K : PySem.W.Frag} {mg : Str → Option Value} {base : Heap}

/-! ### odd_point, where no point is odd -/
def spOdd : Sp := fun vs H Q _ => ∃ (n : Nat) (a : Addr) (ts : List Tri), vs = [vI n, .ref a] ∧ Raw H n a ts ∧ (hl (sortT (ts.map srt))).Nodup ∧ (∀ x < n, (openOf n (hl (sortT (ts.map srt)))).countP (has x) % 2 = 0) ∧
  ∀ H' : Hp, Same H H' → Q .non H'
theorem scOdd : FnScope ["count", "threes", "pairs", "left", "a", "b", "odd", "point", "many"] ["count", "threes"] (defScope sOdd) := ⟨rfl, rfl, rfl, by decide +kernel, rfl, by decide +kernel, by decide +kernel⟩
theorem ok_odd {f : Addr} {fd : FuncData} (F : Fun K "odd_point" "odd_point" sOdd f fd) (cO : Cal P w K mg base 4 "open_pairs" spOpairs []) (zE : mg "enumerate" = none) : FnOk P w K mg base CX0 5 f fd ["count", "threes"] spOdd := by
  refine F.ok scOdd (fun vs H Q E h => ?_) (fun cdv A outer s H vs Q E hr h => ?_)
  · obtain ⟨n, a, ts, rfl, _⟩ := h
    rfl
  · obtain ⟨n, a, ts, rfl, hR, hN, hodd, k⟩ := h
    have nd := scOdd.nd
    have hn : n ≤ 60 := hR.2.1
    refine ⟨_, pss_cons (ps_set (i := 2) nd rfl (.inl rfl) (pe_c cO hr (by decide) (by rfl) (pa_cons (pv 0) (pa_cons (pv 1) pa_nil))))
      (pss_cons (ps_set (i := 3) nd rfl (.inl rfl) (pe_op op_rep (pe_lst (pa_cons pe_int pa_nil)) (pv 0)))
      (pss_cons (ps_for PassesOwn.never rfl (pi_list (pv 2)) (pg_tup rfl (pgs_cons (pg_name (i := 4) nd rfl (.inl rfl)) (pgs_cons (pg_name (i := 5) nd rfl (.inl rfl)) pgs_nil)))
        (pss_cons (ps_augS (pv 3) (pv 4) get_list pe_int ip_add set_list) (pss_one (ps_augS (pv 3) (pv 5) get_list pe_int ip_add set_list))))
      (pss_cons (ps_setLc (i := 6) (own := [("point", 7), ("many", 8)]) rfl nd rfl rfl (sw_true rfl rfl rfl (by decide +kernel)) (pi_enum (by rfl) zE (pa_cons (pv 3) pa_nil)) (blkOk_by (N := ["count", "threes", "pairs", "left", "a", "b", "odd", "point", "many"]) (sc := defScope sOdd) (by decide +kernel))
        (g := gTup K 2 (gCons (gName 7) (gCons (gName 8) gNil))) (fun _ _ _ _ _ => by exact pg_tup rfl (pgs_cons (pg_name (i := 7) nd rfl (.inl rfl)) (pgs_cons (pg_name (i := 8) nd rfl (.inl rfl)) pgs_nil)))
        (fun _ _ _ _ _ => pts_one (pt_cmpR op_eq (pe_op op_mod (pv 8) pe_int) pe_int (nomark _))) (fun _ _ _ _ _ => pv 7))
      (pss_one (ps_ret (pe_ifExp (pt_truth (pv 6) (by intro _; rfl)) (pe_ix ix_list (pv 6) pe_int (fun _ _ => rfl)) pe_non)))))), ?_⟩
    refine ⟨_, rfl, _, rfl, n, a, ts, rfl, hR, hN, fun H1 p s1 hp hL => ?_⟩
    obtain ⟨xs, hx, hpx⟩ := hL
    generalize hPs : openOf n (hl (sortT (ts.map srt))) = ps at *
    have hps : ∀ q ∈ ps, q.1 < q.2 ∧ q.2 < n := fun q hq => by
      rw [← hPs] at hq
      exact (mem_openOf.mp hq).1
    refine ⟨ln, fun l0 hl0 => ?_⟩
    have s2 := same_upd (o := .lst [V.int 0]) hl0
    refine ⟨_, rfl, l0, (n : Int), _, rfl, rfl, upd_same, by omega, by omega, ?_, fun l hl1 => ?_⟩
    · show 1 * (n : Int).toNat ≤ sizeLine
      exact ln (by omega)
    have s3 := same_upd (o := .lst ((List.replicate (n : Int).toNat [V.int 0]).flatten)) hl1
    have hH : Same H1 (upd (upd H1 l0 (.lst [V.int 0])) l (.lst ((List.replicate (n : Int).toNat [V.int 0]).flatten))) := s2.trans s3
    have hlH1 : H1 l = none := s2.free hl1
    refine ⟨_, rfl, p, rfl, ⟨xs, SqL.of (hH _ _ hx)⟩, for_list (K := K) (a := p) (xs := xs)
      (fun i σ H' => ∃ v4 v5 : Option V, σ = [some (vI n), some (.ref a), some (.ref p), some (.ref l), v4, v5, none, none, none] ∧ Same H1 H' ∧ H' l = some (.lst ((degs n (ps.take i)).map vI)))
      ⟨none, none, rfl, hH, by rw [upd_same, List.take_zero, degs_nil]; rfl⟩ (fun i σ H' _ ⟨_, _, _, sm, _⟩ => SqL.of (sm _ _ hx)) ?_ ?_⟩
    · rintro i x σ H' hi ⟨v4, v5, rfl, sm, hl'⟩
      obtain ⟨⟨c, d⟩, hci, q, rfl, hq⟩ := paired_at hpx hi
      obtain ⟨hcd, hdn⟩ := hps _ (List.mem_of_getElem? hci)
      have hcd' : c < d := hcd
      have hdn' : d < n := hdn
      refine ⟨q, _, rfl, SqT.of (sm _ _ hq), rfl, _, _, rfl, _, _, rfl, rfl, ?_⟩
      have gc : ((degs n (ps.take i)).map vI)[c]? = some (vI ((ps.take i).countP (has c))) := by
        rw [List.getElem?_map, degs_at (by omega)]; rfl
      refine ⟨_, rfl, _, rfl, l, _, c, _, rfl, rfl, SqL.of hl', gc, _, _, rfl, rfl, ?_⟩
      have ixc : ixN ((degs n (ps.take i)).map vI).length (c : Int) = some c := by
        unfold ixN
        rw [List.length_map, degs_len, if_pos (by omega), if_pos (by omega)]
        simp
      refine ⟨l, _, _, c, rfl, rfl, hl', ixc, ?_⟩
      have e1 : V.int (((ps.take i).countP (has c) : Nat) + 1 : Int) = vI ((ps.take i).countP (has c) + 1) := rfl
      have m1 : ((degs n (ps.take i)).map vI).set c (vI ((ps.take i).countP (has c) + 1)) = ((degs n (ps.take i)).set c ((ps.take i).countP (has c) + 1)).map vI := by
        rw [List.map_set]
      have gd : (((degs n (ps.take i)).set c ((ps.take i).countP (has c) + 1)).map vI)[d]? = some (vI ((ps.take i).countP (has d))) := by
        rw [List.getElem?_map, List.getElem?_set_ne (by omega), degs_at (by omega)]; rfl
      have hl2 : upd H' l (.lst (((degs n (ps.take i)).map vI).set c (vI ((ps.take i).countP (has c) + 1)))) l = some (.lst (((degs n (ps.take i)).set c ((ps.take i).countP (has c) + 1)).map vI)) := by rw [upd_same, m1]
      refine ⟨_, rfl, _, rfl, l, _, d, _, rfl, rfl, SqL.of hl2, gd, _, _, rfl, rfl, ?_⟩
      have ixd : ixN (((degs n (ps.take i)).set c ((ps.take i).countP (has c) + 1)).map vI).length (d : Int) = some d := by
        unfold ixN
        rw [List.length_map, List.length_set, degs_len, if_pos (by omega), if_pos (by omega)]
        simp
      refine ⟨l, _, _, d, rfl, rfl, hl2, ixd, ?_⟩
      refine ⟨_, _, rfl, same_back (same_back sm hlH1) hlH1, ?_⟩
      have m2 : (((degs n (ps.take i)).set c ((ps.take i).countP (has c) + 1)).set d ((ps.take i).countP (has d) + 1)).map vI = (((degs n (ps.take i)).set c ((ps.take i).countP (has c) + 1)).map vI).set d (vI ((ps.take i).countP (has d) + 1)) := by
        simp only [List.map_set]
      rw [upd_same, take_more hci, ← degs_step hcd' hdn', m2]
      rfl
    · rintro σ H' ⟨v4, v5, rfl, sm, hl'⟩
      rw [Paired.length hpx, List.take_length] at hl'
      refine ⟨_, rfl, l, _, rfl, SqL.of hl', fun D hD => ?_⟩
      have hlD : l ≠ D := ne_of_none hl' hD
      refine any_it walk_enum (fun i H2 => Same H' H2 ∧ H2 D = some (.lst [])) ⟨same_upd hD, upd_same⟩ (fun i H2 _ h => SqL.of (h.1 _ _ hl')) ?_ ?_
      · rintro i x H2 H3 hi ⟨sm2, hD2⟩ ⟨T, y, z, rfl, hT, rfl, ey, ez⟩
        have hin : i < n := by
          rw [List.length_map, degs_len] at hi
          exact hi
        obtain rfl := Option.some.inj ey
        have ez' : ((degs n ps).map vI)[i]? = some z := ez
        rw [List.getElem?_map, degs_at hin] at ez'
        obtain rfl : vI (ps.countP (has i)) = z := Option.some.inj ez'
        have sT := same_upd (o := .tup [V.int (i : Nat), vI (ps.countP (has i))]) hT
        refine ⟨T, _, rfl, SqT.of upd_same, rfl, _, _, rfl, _, _, rfl, rfl, rfl, ?_⟩
        refine ⟨_, rfl, _, _, rfl, rfl, (by show (0 : Int) < 2; decide), rfl, _, rfl, ?_⟩
        have hz := hodd i hin
        have e2 : decide (V.int (((ps.countP (has i) : Nat) : Int) % 2) = V.int 1) = false := decide_eq_false fun z => by
          injection z with z
          omega
        show if decide (V.int (((ps.countP (has i) : Nat) : Int) % 2) = V.int 1) = true then _ else _
        rw [e2]
        exact iteF ⟨sm2.trans sT, sT _ _ hD2⟩
      · rintro H2 ⟨sm2, hD2⟩
        refine ⟨_, rfl, _, .inl ⟨[], SqL.of hD2, rfl⟩, ?_⟩
        exact k H2 (s1.trans (sm.trans sm2))
end
end K30
end

section
set_option Elab.async false
set_option autoImplicit false
set_option linter.all false
set_option maxRecDepth 100000
set_option maxHeartbeats 4000000
namespace K30
open PySem L2
/-- a method that lets nothing out, ready to be called -/
structure MCal (P : Program) (w : World) (K : PySem.W.Frag) (mg : Str → Option Value) (base : Heap) (k : Nat) (C : Addr) (m : Str) (sp : Sp) : Prop where
  got : ∃ (f : Addr) (fd : FuncData) (ps : List Str), (FnOk P w K mg base CX0 k f fd ps sp ∧ Meth K C m f) ∧ (Cls K C ∧ Binds K fd ps [])
section
variable {X : Cx} {k j : Nat} {C : Addr} {m : Str} {sp : Sp} {p pos apos : Pos} {e o : Expr} {es : List Expr} {ta : TE} {t : TA}
theorem pe_m {pl : Sem Bool} (c : MCal X.prog X.w X.K X.mg X.base k C m sp) (hr : Room j X.A) (hk : k ≤ j) (ho : PE X o ta) (ha : PA X (e :: es) t)
    (h1 : starEach (e :: es) X.env = (false, eval e X.env) :: starEach es X.env := by rfl) (h2 : (backTo pos (starEach es X.env)).any (·.1) = false := by rfl)
    (h3 : eval (.Call (.Attribute o m apos) (e :: es) [] pos) X.env = (do let ov ← eval o X.env; standAt apos.atName; let (f, first) ← holding [ov] (getMethod ov m pl); callWith pos f first (backTo pos (starEach (e :: es) X.env)) (backToKw pos (keywordEach [] X.env))) := by rfl) :
    PE X (.Call (.Attribute o m apos) (e :: es) [] pos) (tMeth C m sp [] E0 ta t) :=
  let ⟨_, _, _, ⟨F, hm⟩, ⟨hc, b⟩⟩ := c.got
  pe_meth (pl := pl) ho hc hm F (hr.mono hk) b .nil pass0 ha h1 h2 h3
theorem pe_m0 {pl : Sem Bool} (c : MCal X.prog X.w X.K X.mg X.base k C m sp) (hr : Room j X.A) (hk : k ≤ j) (ho : PE X o ta)
    (h3 : eval (.Call (.Attribute o m apos) [] [] pos) X.env = (do let ov ← eval o X.env; standAt apos.atName; let (f, first) ← holding [ov] (getMethod ov m pl); callWith pos f first (backTo pos (starEach [] X.env)) (backToKw pos (keywordEach [] X.env))) := by rfl) :
    PE X (.Call (.Attribute o m apos) [] [] pos) (tMeth C m sp [] E0 ta tNil) :=
  let ⟨_, _, _, ⟨F, hm⟩, ⟨hc, b⟩⟩ := c.got
  pe_meth0 (pl := pl) ho hc hm F (hr.mono hk) b .nil pass0 h3
end

/-! ### the object of the search -/
def fsS (n lim : Nat) (l d : Addr) (k : Nat) (w : Addr) : List (Str × V) := [("count", vI n), ("limit", vI lim), ("threes", .ref l), ("held", .ref d), ("tried", vI k), ("whole", .ref w)]
structure ClsS (K : PySem.W.Frag) (C : Addr) : Prop where
  cl : Cls K C
  n1 : NoAttr K C "count"
  n2 : NoAttr K C "limit"
  n3 : NoAttr K C "threes"
  n4 : NoAttr K C "held"
  n5 : NoAttr K C "tried"
  n6 : NoAttr K C "whole"
/-- the list of the whole systems at w: each a list of its own, apart from l and w -/
def WhL (H : Hp) (l w : Addr) (wh : List (List Tri)) : Prop := ∃ xs, H w = some (.lst xs) ∧ Paired (fun v ws => ∃ q, v = .ref q ∧ q ≠ l ∧ q ≠ w ∧ TrL H q ws) xs wh
structure SrA (C : Addr) (H : Hp) (p l d w : Addr) (n lim : Nat) (T : List Tri) (wh : List (List Tri)) (k : Nat) : Prop where
  ins : ∃ dx, H p = some (.ins C dx (fsS n lim l d k w))
  thr : TrL H l T
  hld : H d = some (.dT ((hl T).map kv1))
  whl : WhL H l w wh
  lw : l ≠ w
theorem Raw.keep {H H' : Hp} {n : Nat} {a : Addr} {ts : List Tri} (h : Raw H n a ts) (k : ∀ b xs, H b = some (.lst xs) → H' b = some (.lst xs)) (t : Tups H H') : Raw H' n a ts := by
  obtain ⟨h1, h2, hT, h3⟩ := h
  refine ⟨h1, h2, ?_, h3⟩
  rcases hT with ⟨xs, e, p⟩ | ⟨xs, e, p⟩
  · exact .inl ⟨xs, k _ _ e, trs_tups p t⟩
  · exact .inr ⟨xs, t _ _ e, trs_tups p t⟩
theorem Raw.same {H H' : Hp} {n : Nat} {a : Addr} {ts : List Tri} (h : Raw H n a ts) (s : Same H H') : Raw H' n a ts := h.keep (fun b _ e => s b _ e) (Tups.of s)
/-- a store to what is no list and no tuple -/
theorem lists_upd {H : Hp} {p : Addr} {o o' : HO} (hp : H p = some o) (h : ∀ xs, o ≠ .lst xs) : ∀ b xs, H b = some (.lst xs) → (upd H p o') b = some (.lst xs) := fun b xs e => by
  rw [upd_ne (fun z => by rw [z, hp] at e; exact h xs (Option.some.inj e))]
  exact e
theorem TrL.keep {H H' : Hp} {a : Addr} {ts : List Tri} (h : TrL H a ts) (k : ∀ xs, H a = some (.lst xs) → H' a = some (.lst xs)) (t : Tups H H') : TrL H' a ts := let ⟨xs, e, x⟩ := h; ⟨xs, k xs e, trs_tups x t⟩
section
variable {P : Program} {w : World} {K : PySem.W.Frag} {mg : Str → Option Value} {base : Heap}

/-! ### Search.__init__ -/
def spSInit (C : Addr) : Sp := fun vs H Q _ => ∃ (p a dx : Addr) (n lim : Nat) (ts : List Tri), vs = [.ref p, vI n, .ref a, vI lim] ∧ H p = some (.ins C dx []) ∧ Raw H n a ts ∧ (hl (sortT (ts.map srt))).Nodup ∧
  ∀ (H' : Hp) (l d w : Addr), But [p] H H' → H l = none → H d = none → H w = none → SrA C H' p l d w n lim (sortT (ts.map srt)) [] 0 → Q .non H'
theorem scSInit : FnScope ["self", "count", "threes", "limit"] ["self", "count", "threes", "limit"] (defScope sSInit) := ⟨rfl, rfl, rfl, by decide +kernel, rfl, by decide +kernel, by decide +kernel⟩
theorem ok_sinit {f C : Addr} {fd : FuncData} (F : Fun K "__init__" "Search.__init__" sSInit f fd) (T : ClsS K C) (cK : Cal P w K mg base 3 "kept_threes" spKept []) (cH : Cal P w K mg base 2 "held_pairs" spHeld []) :
    FnOk P w K mg base CX0 4 f fd ["self", "count", "threes", "limit"] (spSInit C) := by
  refine F.ok scSInit (fun vs H Q E h => ?_) (fun cdv A outer s H vs Q E hr h => ?_)
  · obtain ⟨p, a, dx, n, lim, ts, rfl, _⟩ := h
    rfl
  · obtain ⟨p, a, dx, n, lim, ts, rfl, hp, hR, hN, k⟩ := h
    refine ⟨_, pss_cons (ps_fld (pv 0) (pv 1) rfl) (pss_cons (ps_fld (pv 0) (pv 3) rfl)
      (pss_cons (ps_fld (pv 0) (pe_c cK hr (by decide) (by rfl) (pa_cons (pv 1) (pa_cons (pv 2) pa_nil))) rfl)
      (pss_cons (ps_fld (pv 0) (pe_c cH hr (by decide) (by rfl) (pa_cons (pe_fld (pv 0) rfl) pa_nil)) rfl)
      (pss_cons (ps_fld (pv 0) pe_int rfl) (pss_one (ps_fld (pv 0) (pe_lst pa_nil) rfl)))))), ?_⟩
    refine ⟨_, rfl, _, rfl, p, C, dx, _, rfl, hp, T.cl, T.n1, (by decide), ?_⟩
    refine ⟨_, rfl, _, rfl, p, C, dx, _, rfl, upd_same, T.cl, T.n2, (by show 1 < 1000; decide), ?_⟩
    rw [upd_upd]
    generalize hG : upd H p (.ins C dx (putF "limit" (vI lim) (putF "count" (vI n) []))) = G
    have hGp : G p = some (.ins C dx (putF "limit" (vI lim) (putF "count" (vI n) []))) := by rw [← hG]; exact upd_same
    have tG : Tups H G := by rw [← hG]; exact tups_upd hp fun _ z => nomatch z
    have lG : ∀ b xs, H b = some (.lst xs) → G b = some (.lst xs) := by rw [← hG]; exact lists_upd hp fun _ z => nomatch z
    have bG : But [p] H G := by rw [← hG]; exact but_upd List.mem_cons_self
    have nG : ∀ b, G b = none → H b = none := fun b e => by
      rw [← hG] at e
      by_cases hb : b = p
      · rw [hb, upd_same] at e; cases e
      · rw [upd_ne hb] at e; exact e
    refine ⟨_, rfl, _, rfl, n, a, ts, rfl, hR.keep lG tG, hN, fun H1 l s1 hl0 hT => ?_⟩
    have hpl : p ≠ l := fun z => by rw [z, hl0] at hGp; cases hGp
    refine ⟨_, rfl, p, C, dx, _, rfl, s1 _ _ hGp, T.cl, T.n3, (by show 2 < 1000; decide), ?_⟩
    generalize hG2 : upd H1 p (.ins C dx (putF "threes" (.ref l) (putF "limit" (vI lim) (putF "count" (vI n) [])))) = G2
    have hG2p : G2 p = some (.ins C dx (putF "threes" (.ref l) (putF "limit" (vI lim) (putF "count" (vI n) [])))) := by rw [← hG2]; exact upd_same
    have tG2 : Tups H1 G2 := by rw [← hG2]; exact tups_upd (s1 _ _ hGp) fun _ z => nomatch z
    have lG2 : ∀ b xs, H1 b = some (.lst xs) → G2 b = some (.lst xs) := by rw [← hG2]; exact lists_upd (s1 _ _ hGp) fun _ z => nomatch z
    have bG2 : But [p] H1 G2 := by rw [← hG2]; exact but_upd List.mem_cons_self
    have nG2 : ∀ b, G2 b = none → H1 b = none := fun b e => by
      rw [← hG2] at e
      by_cases hb : b = p
      · rw [hb, upd_same] at e; cases e
      · rw [upd_ne hb] at e; exact e
    have hT2 : TrL G2 l (sortT (ts.map srt)) := hT.keep (lG2 l) tG2
    refine ⟨_, rfl, p, C, dx, _, _, rfl, hG2p, T.cl, T.n3, rfl, l, _, rfl, hT2, sorted_len hR.2.2.2.2, fun H3 d s3 hd0 hd => ?_⟩
    have hpd : p ≠ d := fun z => by rw [z, hd0] at hG2p; cases hG2p
    have hld : l ≠ d := fun z => by obtain ⟨_, e, _⟩ := hT2; rw [z, hd0] at e; cases e
    refine ⟨_, rfl, p, C, dx, _, rfl, s3 _ _ hG2p, T.cl, T.n4, (by show 3 < 1000; decide), ?_⟩
    refine ⟨_, rfl, p, C, dx, _, rfl, upd_same, T.cl, T.n5, (by show 4 < 1000; decide), ?_⟩
    rw [upd_upd]
    generalize hG3 : upd H3 p (.ins C dx (putF "tried" (.int 0) (putF "held" (.ref d) (putF "threes" (.ref l) (putF "limit" (vI lim) (putF "count" (vI n) [])))))) = G3
    have hG3p : G3 p = some (.ins C dx (putF "tried" (.int 0) (putF "held" (.ref d) (putF "threes" (.ref l) (putF "limit" (vI lim) (putF "count" (vI n) [])))))) := by rw [← hG3]; exact upd_same
    have tG3 : Tups H3 G3 := by rw [← hG3]; exact tups_upd (s3 _ _ hG2p) fun _ z => nomatch z
    have lG3 : ∀ b xs, H3 b = some (.lst xs) → G3 b = some (.lst xs) := by rw [← hG3]; exact lists_upd (s3 _ _ hG2p) fun _ z => nomatch z
    have bG3 : But [p] H3 G3 := by rw [← hG3]; exact but_upd List.mem_cons_self
    have nG3 : ∀ b, G3 b = none → H3 b = none := fun b e => by
      rw [← hG3] at e
      by_cases hb : b = p
      · rw [hb, upd_same] at e; cases e
      · rw [upd_ne hb] at e; exact e
    refine ⟨ln, fun w0 hw0 => ?_⟩
    have s4 := same_upd (o := .lst []) hw0
    have hT3 : TrL G3 l (sortT (ts.map srt)) := (hT2.same s3).keep (lG3 l) tG3
    have hlw : l ≠ w0 := fun z => by obtain ⟨_, e, _⟩ := hT3; rw [z, hw0] at e; cases e
    have hd3 : G3 d = some (.dT ((tally (hl (sortT (ts.map srt)))).map kvN)) := by
      rw [← hG3, upd_ne hpd.symm]; exact hd
    refine ⟨_, rfl, p, C, dx, _, rfl, s4 _ _ hG3p, T.cl, T.n6, (by show 5 < 1000; decide), ?_⟩
    have hpw : p ≠ w0 := fun z => by rw [z, hw0] at hG3p; cases hG3p
    refine k _ l d w0 ?_ (nG _ hl0) (nG _ (s1.free (nG2 _ hd0))) (nG _ (s1.free (nG2 _ (s3.free (nG3 _ hw0))))) ⟨⟨dx, upd_same⟩, ?_, ?_, ⟨[], ?_, .nil⟩, hlw⟩
    · exact bG.trans ((But.of s1).trans (bG2.trans ((But.of s3).trans (bG3.trans ((But.of s4).trans (but_upd List.mem_cons_self))))))
    · exact (hT3.same s4).keep (lists_upd (s4 _ _ hG3p) (fun _ z => nomatch z) l) (tups_upd (s4 _ _ hG3p) fun _ z => nomatch z)
    · rw [upd_ne hpd.symm, ← kv_once, ← tally_once hN]
      exact s4 _ _ hd3
    · rw [upd_ne hpw.symm]
      exact upd_same
end
end K30
end

section
set_option Elab.async false
set_option autoImplicit false
set_option linter.all false
set_option maxRecDepth 100000
set_option maxHeartbeats 4000000
namespace K30
open PySem L2
theorem WhL.keep {H H' : Hp} {l w : Addr} {wh : List (List Tri)} (h : WhL H l w wh) (k : ∀ b xs, b ≠ l → H b = some (.lst xs) → H' b = some (.lst xs)) (t : Tups H H') (hlw : l ≠ w) : WhL H' l w wh := by
  obtain ⟨xs, e, p⟩ := h
  refine ⟨xs, k _ _ hlw.symm e, Paired.mapP p fun v ws ⟨q, ev, h1, h2, hT⟩ => ⟨q, ev, h1, h2, hT.keep (fun ys ey => k _ _ h1 ey) t⟩⟩
/-- what is there in an object of the search, apart -/
structure SrA.Ne (p l d w : Addr) : Prop where
  pl : p ≠ l
  pd : p ≠ d
  pw : p ≠ w
  ld : l ≠ d
  dw : d ≠ w
theorem SrA.ne {C : Addr} {H : Hp} {p l d w : Addr} {n lim : Nat} {T : List Tri} {wh : List (List Tri)} {k : Nat} (h : SrA C H p l d w n lim T wh k) : SrA.Ne p l d w := by
  obtain ⟨dx, hp⟩ := h.ins
  obtain ⟨xs, hl, _⟩ := h.thr
  obtain ⟨ys, hw, _⟩ := h.whl
  exact ⟨ne_of hp hl (fun z => nomatch z), ne_of hp h.hld (fun z => nomatch z), ne_of hp hw (fun z => nomatch z), ne_of hl h.hld (fun z => nomatch z), ne_of h.hld hw (fun z => nomatch z)⟩
theorem hl_snoc (T : List Tri) (t : Tri) : hl (T ++ [t]) = hl T ++ pairsOf t := by rw [hl_append, hl_one]
theorem val_new {L : List Pr} {p : Pr} (h : p ∉ L) : valV (L.map kv1) (prK p) = none := by
  have := kv1_has L p
  rw [decide_eq_false h] at this
  cases e : valV (L.map kv1) (prK p) with
  | none => rfl
  | some v => rw [e] at this; cases this
theorem put_new {L : List Pr} {p : Pr} (h : p ∉ L) : putK (L.map kv1) (prK p) (.int 1) = (L ++ [p]).map kv1 := by
  rw [putK_new _ (val_new h), List.map_append]
  rfl
theorem drop_one {A B : List Pr} {p : Pr} (h : (A ++ p :: B).Nodup) : dropK ((A ++ p :: B).map kv1) (prK p) = (A ++ B).map kv1 := by
  have hn : (p :: (A ++ B)).Nodup := List.perm_middle.nodup h
  obtain ⟨h1, h2⟩ := List.nodup_cons.mp hn
  unfold dropK
  rw [List.map_append, List.map_cons, List.filter_append, List.filter_cons_of_neg (by simp [kv1]), List.map_append]
  have keep : ∀ L : List Pr, p ∉ L → (L.map kv1).filter (fun kv => decide (kv.1 ≠ prK p)) = L.map kv1 := fun L hL => by
    refine List.filter_eq_self.mpr fun kv hkv => ?_
    obtain ⟨q, hq, rfl⟩ := List.mem_map.mp hkv
    refine decide_eq_true fun z => hL ?_
    rw [← prK_inj (show prK q = prK p from z)]
    exact hq
  rw [keep A (fun z => h1 (List.mem_append_left _ z)), keep B (fun z => h1 (List.mem_append_right _ z))]
theorem paired_last {α β : Type} {F : α → β → Prop} : ∀ {l : List α} {m : List β} {b : β}, Paired F l (m ++ [b]) → ∃ l' a, l = l' ++ [a] ∧ Paired F l' m ∧ F a b
  | _, [], _, .cons r .nil => ⟨[], _, rfl, .nil, r⟩
  | _, _ :: m, _, .cons r t => by
    obtain ⟨l', a, e, h1, h2⟩ := paired_last t
    exact ⟨_ :: l', a, by rw [e]; rfl, .cons r h1, h2⟩
section
variable {P : Program} {w0 : World} {K : PySem.W.Frag} {mg : Str → Option Value} {base : Heap}

/-! ### put -/
def spPut (C : Addr) : Sp := fun vs H Q _ => ∃ (p q l d w : Addr) (n lim : Nat) (T : List Tri) (wh : List (List Tri)) (k : Nat) (t : Tri), vs = [.ref p, .ref q] ∧ SrA C H p l d w n lim T wh k ∧ H q = some (.tup (trV t)) ∧ (hl T ++ pairsOf t).Nodup ∧ k < lim ∧ T.length ≤ 1000 ∧
  ∀ H' : Hp, But [p, l, d, w] H H' → Tups H H' → SrA C H' p l d w n lim (T ++ [t]) wh (k + 1) → Q .non H'
theorem scPut : FnScope ["self", "three", "pair"] ["self", "three"] (defScope sPut) := ⟨rfl, rfl, rfl, by decide +kernel, rfl, by decide +kernel, by decide +kernel⟩
theorem ok_put {f C : Addr} {fd : FuncData} (F : Fun K "put" "Search.put" sPut f fd) (T : ClsS K C) (cP : Cal P w0 K mg base 1 "pairs_of" spPairs []) : FnOk P w0 K mg base CX0 2 f fd ["self", "three"] (spPut C) := by
  refine F.ok scPut (fun vs H Q E h => ?_) (fun cdv A outer s H vs Q E hr h => ?_)
  · obtain ⟨p, q, l, d, w, n, lim, Ts, wh, k, t, rfl, _⟩ := h
    rfl
  · obtain ⟨p, q, l, d, w, n, lim, Ts, wh, k, t, rfl, S, hq, hN, hk, hlen, kk⟩ := h
    have nd := scPut.nd
    have N := S.ne
    obtain ⟨dx, hp⟩ := S.ins
    obtain ⟨xs, hx, hpx⟩ := S.thr
    refine ⟨_, pss_cons (ps_if (pt_cmpR op_eq (pe_fld (pv 0) rfl) (pe_fld (pv 0) rfl) (nomark _)) (pss_one ps_never) pss_nil)
      (pss_cons (ps_fldaug (pv 0) pe_int in_add)
      (pss_cons (ps_expr (pe_bm PySem.F.plainAttrs_list PySem.F.slot_list_append PySem.F.type_list_append mt_append (pe_fld (pv 0) rfl) (pa_cons (pv 1) pa_nil)))
      (pss_one (ps_for PassesOwn.never rfl (pi_list (pe_c cP hr (by decide) (by rfl) (pa_cons (pv 1) pa_nil))) (pg_name (i := 2) nd rfl (.inl rfl))
        (pss_one (ps_dput (hu_of hr) (pe_fld (pv 0) rfl) (pv 2) pe_int rfl)))))), ?_⟩
    refine ⟨_, rfl, p, C, dx, _, _, rfl, hp, T.cl, T.n5, rfl, _, rfl, p, C, dx, _, _, rfl, hp, T.cl, T.n2, rfl, rfl, _, rfl, ?_⟩
    rw [decide_eq_false (show ¬ vI k = vI lim from fun z => by have := vI_inj z; omega)]
    refine iteF ?_
    refine ⟨_, rfl, p, C, dx, _, _, rfl, hp, T.cl, T.n5, rfl, _, _, rfl, rfl, dx, _, hp, (by show 6 < 1000; decide), ?_⟩
    generalize hG : upd H p (.ins C dx (putF "tried" (V.int ((k : Int) + 1)) (fsS n lim l d k w))) = G
    have hGp : G p = some (.ins C dx (fsS n lim l d (k + 1) w)) := by rw [← hG]; exact upd_same
    have tG : Tups H G := by rw [← hG]; exact tups_upd hp fun _ z => nomatch z
    have lG : ∀ b xs, H b = some (.lst xs) → G b = some (.lst xs) := by rw [← hG]; exact lists_upd hp fun _ z => nomatch z
    have bG : But [p, l, d, w] H G := by rw [← hG]; exact but_upd (by simp)
    have dG : G d = H d := by rw [← hG]; exact upd_ne N.pd.symm
    refine ⟨_, rfl, p, C, dx, _, _, rfl, hGp, T.cl, T.n3, rfl, .inl ⟨rfl, _, SqL.of (lG _ _ hx)⟩, _, rfl, l, xs, _, rfl, rfl, lG _ _ hx, ?_, ?_⟩
    · rw [Paired.length hpx]
      exact lt_ln (by omega)
    generalize hG2 : upd G l (.lst (xs ++ [.ref q])) = G2
    have hG2l : G2 l = some (.lst (xs ++ [.ref q])) := by rw [← hG2]; exact upd_same
    have hG2p : G2 p = some (.ins C dx (fsS n lim l d (k + 1) w)) := by rw [← hG2, upd_ne N.pl]; exact hGp
    have tG2 : Tups G G2 := by rw [← hG2]; exact tups_upd (lG _ _ hx) fun _ z => nomatch z
    have bG2 : But [p, l, d, w] G G2 := by rw [← hG2]; exact but_upd (by simp)
    have dG2 : G2 d = some (.dT ((hl Ts).map kv1)) := by rw [← hG2, upd_ne N.ld.symm, dG]; exact S.hld
    have lG2 : ∀ b xs, b ≠ l → G b = some (.lst xs) → G2 b = some (.lst xs) := fun b ys hb e => by rw [← hG2, upd_ne hb]; exact e
    have hq2 : G2 q = some (.tup (trV t)) := tG2 _ _ (tG _ _ hq)
    have wG2 : WhL G2 l w wh := S.whl.keep (fun b ys hb e => lG2 b ys hb (lG _ _ e)) (tG.trans tG2) S.lw
    have hpx2 : Paired (IsTr G2) (xs ++ [.ref q]) (Ts ++ [t]) := paired_snoc (trs_tups hpx (tG.trans tG2)) ⟨q, rfl, hq2⟩
    refine ⟨_, rfl, q, t, rfl, hq2, fun H3 pl s3 hpl hL => ?_⟩
    obtain ⟨ys, hy, hpy⟩ := hL
    have hpld : pl ≠ d := fun z => by rw [z, dG2] at hpl; cases hpl
    refine ⟨pl, rfl, ⟨ys, SqL.of hy⟩, for_list (K := K) (a := pl) (xs := ys)
      (fun j σ H4 => ∃ v2 : Option V, σ = [some (.ref p), some (.ref q), v2] ∧ (∀ b o, b ≠ d → H3 b = some o → H4 b = some o) ∧ H4 d = some (.dT ((hl Ts ++ (pairsOf t).take j).map kv1)))
      ⟨none, rfl, fun _ _ _ e => e, by rw [List.take_zero, List.append_nil]; exact s3 _ _ dG2⟩ (fun j σ H4 _ ⟨_, _, e, _⟩ => SqL.of (e _ _ hpld hy)) ?_ ?_⟩
    · rintro j y σ H4 hj ⟨v2, rfl, sm, hd4⟩
      obtain ⟨pr, hpj, b, rfl, hb⟩ := paired_at hpy hj
      have hbd : b ≠ d := ne_of hb (s3 _ _ dG2) (fun z => nomatch z)
      have hb4 : H4 b = some (.tup ((prK pr).map kV)) := sm _ _ hbd hb
      have hp4 := sm _ _ N.pd (s3 _ _ hG2p)
      refine ⟨_, rfl, p, C, dx, _, _, rfl, hp4, T.cl, T.n4, rfl, _, rfl, d, _, rfl, DPut.t hd4 hb4 ?_, ?_⟩
      · rw [List.length_map, List.length_append, hl_len, List.length_take]
        have : (pairsOf t).length = 3 := rfl
        exact lt_ln (by omega)
      · refine ⟨_, rfl, fun c o hc e => ?_, ?_⟩
        · rw [upd_ne hc]; exact sm _ _ hc e
        · have hnew : pr ∉ hl Ts ++ (pairsOf t).take j := by
            have h1 : (hl Ts ++ (pairsOf t).take (j + 1)).Sublist (hl Ts ++ pairsOf t) := (List.Sublist.refl _).append (List.take_sublist _ _)
            have h2 := h1.nodup hN
            rw [take_more hpj, ← List.append_assoc] at h2
            intro z
            exact (List.nodup_append.mp h2).2.2 pr z pr List.mem_cons_self rfl
          rw [upd_same, take_more hpj, ← List.append_assoc, put_new hnew]
    · rintro σ H4 ⟨v2, rfl, sm, hd4⟩
      rw [Paired.length hpy, List.take_length] at hd4
      have t4 : Tups H3 H4 := fun b zs e => sm _ _ (ne_of e (s3 _ _ dG2) (fun z => nomatch z)) e
      have b4 : But [p, l, d, w] H3 H4 := fun b o hb e => sm _ _ (fun z => hb (by rw [z]; simp)) e
      refine kk H4 (bG.trans (bG2.trans ((But.of s3).trans b4))) (tG.trans (tG2.trans ((Tups.of s3).trans t4))) ⟨⟨dx, sm _ _ N.pd (s3 _ _ hG2p)⟩, ⟨_, sm _ _ N.ld (s3 _ _ hG2l), trs_tups hpx2 ((Tups.of s3).trans t4)⟩, by rw [hl_snoc]; exact hd4, ?_, S.lw⟩
      refine wG2.keep (fun b zs hb e => ?_) ((Tups.of s3).trans t4) S.lw
      have e3 := s3 _ _ e
      exact sm _ _ (ne_of e3 (s3 _ _ dG2) (fun z => nomatch z)) e3

/-! ### take -/
def spTake (C : Addr) : Sp := fun vs H Q _ => ∃ (p q l d w : Addr) (n lim : Nat) (T : List Tri) (wh : List (List Tri)) (k : Nat) (t : Tri), vs = [.ref p, .ref q] ∧ SrA C H p l d w n lim (T ++ [t]) wh k ∧ H q = some (.tup (trV t)) ∧ (hl T ++ pairsOf t).Nodup ∧
  ∀ H' : Hp, But [p, l, d, w] H H' → Tups H H' → SrA C H' p l d w n lim T wh k → Q .non H'
theorem scTake : FnScope ["self", "three", "pair"] ["self", "three"] (defScope sTake) := ⟨rfl, rfl, rfl, by decide +kernel, rfl, by decide +kernel, by decide +kernel⟩
theorem ok_take {f C : Addr} {fd : FuncData} (F : Fun K "take" "Search.take" sTake f fd) (T : ClsS K C) (cP : Cal P w0 K mg base 1 "pairs_of" spPairs []) : FnOk P w0 K mg base CX0 2 f fd ["self", "three"] (spTake C) := by
  refine F.ok scTake (fun vs H Q E h => ?_) (fun cdv A outer s H vs Q E hr h => ?_)
  · obtain ⟨p, q, l, d, w, n, lim, Ts, wh, k, t, rfl, _⟩ := h
    rfl
  · obtain ⟨p, q, l, d, w, n, lim, Ts, wh, k, t, rfl, S, hq, hN, kk⟩ := h
    have nd := scTake.nd
    have N := S.ne
    obtain ⟨dx, hp⟩ := S.ins
    obtain ⟨zs, hz, hpz⟩ := S.thr
    obtain ⟨xs, v, rfl, hpx, hv⟩ := paired_last hpz
    refine ⟨_, pss_cons (ps_expr (pe_bm0 PySem.F.plainAttrs_list PySem.F.slot_list_pop PySem.F.type_list_pop mt_pop (pe_fld (pv 0) rfl)))
      (pss_one (ps_for PassesOwn.never rfl (pi_list (pe_c cP hr (by decide) (by rfl) (pa_cons (pv 1) pa_nil))) (pg_name (i := 2) nd rfl (.inl rfl))
        (pss_one (ps_ddelT (hu_of hr) (pe_fld (pv 0) rfl) (pv 2))))), ?_⟩
    refine ⟨_, rfl, p, C, dx, _, _, rfl, hp, T.cl, T.n3, rfl, .inl ⟨rfl, _, SqL.of hz⟩, l, _, v, rfl, rfl, hz, (by simp), ?_⟩
    rw [List.dropLast_concat]
    generalize hG2 : upd H l (.lst xs) = G2
    have hG2l : G2 l = some (.lst xs) := by rw [← hG2]; exact upd_same
    have hG2p : G2 p = some (.ins C dx (fsS n lim l d k w)) := by rw [← hG2, upd_ne N.pl]; exact hp
    have tG2 : Tups H G2 := by rw [← hG2]; exact tups_upd hz fun _ z => nomatch z
    have bG2 : But [p, l, d, w] H G2 := by rw [← hG2]; exact but_upd (by simp)
    have dG2 : G2 d = some (.dT ((hl Ts ++ pairsOf t).map kv1)) := by rw [← hG2, upd_ne N.ld.symm, ← hl_snoc]; exact S.hld
    have lG2 : ∀ b xs, b ≠ l → H b = some (.lst xs) → G2 b = some (.lst xs) := fun b ys hb e => by rw [← hG2, upd_ne hb]; exact e
    have hq2 : G2 q = some (.tup (trV t)) := tG2 _ _ hq
    have wG2 : WhL G2 l w wh := S.whl.keep lG2 tG2 S.lw
    have hpx2 : Paired (IsTr G2) xs Ts := trs_tups hpx tG2
    refine ⟨_, rfl, q, t, rfl, hq2, fun H3 pl s3 hpl hL => ?_⟩
    obtain ⟨ys, hy, hpy⟩ := hL
    have hpld : pl ≠ d := fun z => by rw [z, dG2] at hpl; cases hpl
    refine ⟨pl, rfl, ⟨ys, SqL.of hy⟩, for_list (K := K) (a := pl) (xs := ys)
      (fun j σ H4 => ∃ v2 : Option V, σ = [some (.ref p), some (.ref q), v2] ∧ (∀ b o, b ≠ d → H3 b = some o → H4 b = some o) ∧ H4 d = some (.dT ((hl Ts ++ (pairsOf t).drop j).map kv1)))
      ⟨none, rfl, fun _ _ _ e => e, s3 _ _ dG2⟩ (fun j σ H4 _ ⟨_, _, e, _⟩ => SqL.of (e _ _ hpld hy)) ?_ ?_⟩
    · rintro j y σ H4 hj ⟨v2, rfl, sm, hd4⟩
      obtain ⟨pr, hpj, b, rfl, hb⟩ := paired_at hpy hj
      have hbd : b ≠ d := ne_of hb (s3 _ _ dG2) (fun z => nomatch z)
      have hb4 : H4 b = some (.tup ((prK pr).map kV)) := sm _ _ hbd hb
      have hp4 := sm _ _ N.pd (s3 _ _ hG2p)
      have hjl : j < (pairsOf t).length := (List.getElem?_eq_some_iff.mp hpj).1
      have ej : (pairsOf t)[j] = pr := (List.getElem?_eq_some_iff.mp hpj).2
      have hdrop : (pairsOf t).drop j = pr :: (pairsOf t).drop (j + 1) := by rw [List.drop_eq_getElem_cons hjl, ej]
      rw [hdrop] at hd4
      have hn2 : (hl Ts ++ pr :: (pairsOf t).drop (j + 1)).Nodup := by
        rw [← hdrop]
        exact ((List.Sublist.refl _).append (List.drop_sublist _ _)).nodup hN
      have hval : (valV ((hl Ts ++ pr :: (pairsOf t).drop (j + 1)).map kv1) (prK pr)).isSome = true := by
        rw [kv1_has, decide_eq_true_eq]
        exact List.mem_append_right _ List.mem_cons_self
      refine ⟨_, rfl, p, C, dx, _, _, rfl, hp4, T.cl, T.n4, rfl, _, rfl, d, b, _, prK pr, rfl, rfl, hd4, hb4, hval, ?_⟩
      refine ⟨_, rfl, fun c o hc e => ?_, ?_⟩
      · rw [upd_ne hc]; exact sm _ _ hc e
      · rw [upd_same, drop_one hn2]
    · rintro σ H4 ⟨v2, rfl, sm, hd4⟩
      rw [Paired.length hpy, List.drop_length, List.append_nil] at hd4
      have t4 : Tups H3 H4 := fun b zs e => sm _ _ (ne_of e (s3 _ _ dG2) (fun z => nomatch z)) e
      have b4 : But [p, l, d, w] H3 H4 := fun b o hb e => sm _ _ (fun z => hb (by rw [z]; simp)) e
      refine kk H4 (bG2.trans ((But.of s3).trans b4)) (tG2.trans ((Tups.of s3).trans t4)) ⟨⟨dx, sm _ _ N.pd (s3 _ _ hG2p)⟩, ⟨_, sm _ _ N.ld (s3 _ _ hG2l), trs_tups hpx2 ((Tups.of s3).trans t4)⟩, hd4, ?_, S.lw⟩
      refine wG2.keep (fun b zs hb e => ?_) ((Tups.of s3).trans t4) S.lw
      have e3 := s3 _ _ e
      exact sm _ _ (ne_of e3 (s3 _ _ dG2) (fun z => nomatch z)) e3
end
end K30
end

section
set_option Elab.async false
set_option autoImplicit false
set_option linter.all false
set_option maxRecDepth 100000
set_option maxHeartbeats 4000000
namespace K30
open PySem L2
/-- what the list of whole systems becomes: one: the first alone -/
def after (one : Bool) (wh cs : List (List Tri)) : List (List Tri) := if one = true then (wh ++ cs).take 1 else wh ++ cs
def mostV (one : Bool) : V := if one = true then .int 1 else .non
theorem after_nil {one : Bool} {wh : List (List Tri)} (h : one = true → wh = []) : after one wh [] = wh := by
  unfold after
  cases one with
  | false => simp
  | true => rw [if_pos rfl, h rfl]; rfl
theorem pairs13 : ∀ n ≤ 13, (allPairs n).length ≤ 78 := by decide +kernel
theorem sys_len {n : Nat} {T : List Tri} (h : n ≤ 13) (S : Sys n T) : T.length ≤ 26 := by
  have := open_len S
  have := pairs13 n h
  omega
theorem paired_map {α β : Type} {F : α → β → Prop} {f : β → α} (h : ∀ b, F (f b) b) : ∀ l : List β, Paired F (l.map f) l
  | [] => .nil
  | b :: l => .cons (h b) (paired_map h l)
section
variable {P : Program} {w0 : World} {K : PySem.W.Frag} {mg : Str → Option Value} {base : Heap}

/-! ### run, to a depth -/
def spRun (C : Addr) (D : Nat) : Sp := fun vs H Q _ => ∃ (p l d w : Addr) (n lim : Nat) (T : List Tri) (wh : List (List Tri)) (k : Nat) (one : Bool), vs = [.ref p, mostV one] ∧ SrA C H p l d w n lim T wh k ∧ Sys n T ∧ n ≤ 13 ∧ (openOf n (hl T)).length ≤ 3 * D ∧ k + tries D ≤ lim ∧ (one = true → wh = []) ∧ wh.length + 1 + tries D ≤ 60000 ∧
  ∀ (H' : Hp) (k' : Nat), But [p, l, d, w] H H' → Tups H H' → k' ≤ k + tries D → SrA C H' p l d w n lim T (after one wh (comps n D T)) k' → Q .non H'
theorem scRun : FnScope ["self", "most", "left", "pair", "third", "three"] ["self", "most"] (defScope sRun) := ⟨rfl, rfl, rfl, by decide +kernel, rfl, by decide +kernel, by decide +kernel⟩
theorem flat_len {f : Nat → List (List Tri)} {m : Nat} : ∀ l : List Nat, (∀ c ∈ l, (f c).length ≤ m) → (l.flatMap f).length ≤ l.length * m
  | [], _ => by simp
  | c :: l, hc => by
    have a1 := hc c List.mem_cons_self
    have a2 := flat_len l fun x hx => hc x (List.mem_cons_of_mem _ hx)
    rw [List.flatMap_cons, List.length_append, List.length_cons, Nat.succ_mul]
    omega
theorem after_len (one : Bool) (wh cs : List (List Tri)) : (after one wh cs).length ≤ wh.length + cs.length := by
  unfold after
  split
  · rw [List.length_take, List.length_append]; omega
  · rw [List.length_append]; exact Nat.le_refl _
theorem comps_len {n : Nat} (h : n ≤ 13) : ∀ {D : Nat} {T : List Tri}, Sys n T → (openOf n (hl T)).length ≤ 3 * D → (comps n D T).length ≤ 1 + tries D := by
  intro D
  induction D with
  | zero =>
    intro T _ _
    unfold comps
    split <;> simp
  | succ D ih =>
    intro T S hl0
    cases e : openOf n (hl T) with
    | nil => rw [comps_nil e]; simp
    | cons p r =>
      have hp : p ∈ openOf n (hl T) := by rw [e]; exact List.mem_cons_self
      rw [comps_cons e]
      have h1 := thirds_le hp hl0
      have h4 := flat_len (f := fun c => comps n D (T ++ [tri p c])) (m := 1 + tries D) (thirdsOf n (hl T) p) fun c hc => ih (sys_put S hp hc) (by have := open_put S hp hc; omega)
      have h5 : (thirdsOf n (hl T) p).length * (1 + tries D) ≤ (3 * D + 2) * (1 + tries D) := Nat.mul_le_mul_right _ h1
      show _ ≤ 1 + (3 * D + 2) * (1 + tries D)
      omega
/-- sorted(self.threes) noted -/
theorem note_whole {C : Addr} {H H1 : Hp} {p l d w : Addr} {n lim : Nat} {T : List Tri} {wh : List (List Tri)} {k : Nat} {dx : Addr} {q : Addr} {xs ys : List V} (S : SrA C H p l d w n lim T wh k) (hq : H q = none) (hz : Paired (IsTr H) ys (sortT T)) (hw : H w = some (.lst xs))
    (e1 : H1 = upd H q (.lst ys)) : SrA C (upd H1 w (.lst (xs ++ [.ref q]))) p l d w n lim T (wh ++ [sortT T]) k ∧ But [p, l, d, w] H (upd H1 w (.lst (xs ++ [.ref q]))) ∧ Tups H (upd H1 w (.lst (xs ++ [.ref q]))) := by
  have N := S.ne
  have s1 : Same H H1 := by rw [e1]; exact same_upd hq
  have t2 : Tups H1 (upd H1 w (.lst (xs ++ [.ref q]))) := tups_upd (s1 _ _ hw) fun _ z => nomatch z
  have t12 := (Tups.of s1).trans t2
  have b12 : But [p, l, d, w] H (upd H1 w (.lst (xs ++ [.ref q]))) := (But.of s1).trans (but_upd (by simp))
  obtain ⟨dx, hp⟩ := S.ins
  obtain ⟨zs, hzs, hpz⟩ := S.thr
  obtain ⟨xs', hw', hpw⟩ := S.whl
  rw [hw] at hw'
  obtain rfl : xs = xs' := by injection hw' with hw'; injection hw'
  have hql : q ≠ l := fun z => by rw [z, hzs] at hq; cases hq
  have hqw : q ≠ w := fun z => by rw [z, hw] at hq; cases hq
  refine ⟨⟨⟨dx, ?_⟩, ⟨zs, ?_, trs_tups hpz t12⟩, ?_, ⟨_, upd_same, ?_⟩, S.lw⟩, b12, t12⟩
  · rw [upd_ne N.pw]; exact s1 _ _ hp
  · rw [upd_ne S.lw]; exact s1 _ _ hzs
  · rw [upd_ne N.dw]; exact s1 _ _ S.hld
  · refine paired_snoc (Paired.mapP hpw fun v ws ⟨r, ev, h1, h2, hT⟩ => ⟨r, ev, h1, h2, hT.keep (fun us ue => ?_) t12⟩) ⟨q, rfl, hql, hqw, ys, ?_, trs_tups hz t12⟩
    · rw [upd_ne h2]; exact s1 _ _ ue
    · rw [upd_ne hqw, e1]; exact upd_same
theorem run_low {n : Nat} {T : List Tri} (h : n ≤ 13) (S : Sys n T) : ∀ t ∈ T, low t := fun t ht => by
  have := S.ok t ht
  unfold okT at this
  unfold low
  omega
theorem ok_run {f C : Addr} {fd : FuncData} (F : Fun K "run" "Search.run" sRun f fd) (T : ClsS K C) (me : Meth K C "run" f) (bR : Binds K fd ["self", "most"] []) (cO : Cal P w0 K mg base 2 "open_of" spOpen []) (cT : Cal P w0 K mg base 1 "thirds_of" spThirds [])
    (mP : MCal P w0 K mg base 2 C "put" (spPut C)) (mT : MCal P w0 K mg base 2 C "take" (spTake C)) (zL : mg "len" = none) (zS : mg "sorted" = none) (zT : mg "tuple" = none) :
    ∀ D : Nat, FnOk P w0 K mg base CX0 (3 + D) f fd ["self", "most"] (spRun C D) := by
  intro D
  have nd := scRun.nd
  have len : ∀ D vs (H : Hp) (Q : VK) (E : XK), spRun C D vs H Q E → vs.length = (["self", "most"] : List Str).length := fun D vs H Q E h => by
    obtain ⟨p, l, d, w, n, lim, Ts, wh, k, one, rfl, _⟩ := h
    rfl
  induction D with
  | zero =>
    refine F.ok scRun (len 0) (fun cdv A outer s H vs Q E hr h => ?_)
    obtain ⟨p, l, d, w, n, lim, Ts, wh, k, one, rfl, S, Y, hn, ho, hk, hone, hwl, kk⟩ := h
    obtain ⟨dx, hp⟩ := S.ins
    have e0 : openOf n (hl Ts) = [] := List.eq_nil_of_length_eq_zero (by omega)
    refine ⟨_, pss_cons (ps_set (i := 2) nd rfl (.inl rfl) (pe_c cO hr (by decide) (by rfl) (pa_cons (pe_fld (pv 0) rfl) (pa_cons (pe_fld (pv 0) rfl) pa_nil))))
      (pss_cons (ps_if (pt_not (pt_truth (pv 2) (by intro _; rfl)))
        (pss_cons (ps_expr (pe_bm PySem.F.plainAttrs_list PySem.F.slot_list_append PySem.F.type_list_append mt_append (pe_fld (pv 0) rfl) (pa_cons (pe_callB (cr_sortT (d := 3) (B := 64) (by decide)) (by rfl) zS (by decide +kernel) (pa_cons (pe_fld (pv 0) rfl) pa_nil)) pa_nil))) (pss_one ps_retN)) pss_nil)
      pss_never), ?_⟩
    refine ⟨_, rfl, p, C, dx, _, _, rfl, hp, T.cl, T.n1, rfl, _, rfl, p, C, dx, _, _, rfl, hp, T.cl, T.n4, rfl, ?_⟩
    refine ⟨n, d, _, hl Ts, rfl, by omega, S.hld, kv1_has _, fun H1 lf s1 hlf hL => ?_⟩
    rw [e0] at hL
    obtain ⟨zs, hz, hpz⟩ := hL
    cases hpz
    refine ⟨_, rfl, _, .inl ⟨[], SqL.of hz, rfl⟩, ?_⟩
    obtain ⟨xs, hw, hpw⟩ := S.whl
    refine ⟨_, rfl, p, C, dx, _, _, rfl, s1 _ _ hp, T.cl, T.n6, rfl, .inl ⟨rfl, _, SqL.of (s1 _ _ hw)⟩, ?_⟩
    refine ⟨_, rfl, p, C, dx, _, _, rfl, s1 _ _ hp, T.cl, T.n3, rfl, ?_⟩
    refine tn (sorted_trs (S.thr.same s1) (by have := sys_len hn Y; omega) (run_low hn Y) fun q ys hq hys => ?_)
    have S1 : SrA C H1 p l d w n lim Ts wh k := ⟨⟨dx, s1 _ _ hp⟩, S.thr.same s1, s1 _ _ S.hld, S.whl.keep (fun b ys _ e => s1 _ _ e) (Tups.of s1) S.lw, S.lw⟩
    obtain ⟨S2, b2, t2⟩ := note_whole S1 hq hys (s1 _ _ hw) (dx := dx) rfl
    refine ⟨w, xs, _, rfl, rfl, (same_upd hq) _ _ (s1 _ _ hw), ?_, ?_⟩
    · have := Paired.length hpw
      exact lt_ln (by omega)
    refine kk _ k ((But.of s1).trans b2) ((Tups.of s1).trans t2) (by omega) ?_
    have ea : after one wh (comps n 0 Ts) = wh ++ [sortT Ts] := by
      rw [comps_nil e0]
      unfold after
      cases one with
      | false => rfl
      | true => rw [if_pos rfl, hone rfl]; rfl
    rw [ea]
    exact S2
  | succ D ih =>
    have mR : MCal P w0 K mg base (3 + D) C "run" (spRun C D) := ⟨f, fd, _, ⟨ih, me⟩, ⟨T.cl, bR⟩⟩
    refine F.ok scRun (len (D + 1)) (fun cdv A outer s H vs Q E hr h => ?_)
    obtain ⟨p, l, d, w, n, lim, Ts, wh, k, one, rfl, S, Y, hn, ho, hk, hone, hwl, kk⟩ := h
    obtain ⟨dx, hp⟩ := S.ins
    have N := S.ne
    have hr2 : 2 ≤ 3 + D := by omega
    refine ⟨_, pss_cons (ps_set (i := 2) nd rfl (.inl rfl) (pe_c cO hr hr2 (by rfl) (pa_cons (pe_fld (pv 0) rfl) (pa_cons (pe_fld (pv 0) rfl) pa_nil))))
      (pss_cons (ps_if (pt_not (pt_truth (pv 2) (by intro _; rfl)))
        (pss_cons (ps_expr (pe_bm PySem.F.plainAttrs_list PySem.F.slot_list_append PySem.F.type_list_append mt_append (pe_fld (pv 0) rfl) (pa_cons (pe_callB (cr_sortT (d := 3) (B := 64) (by decide)) (by rfl) zS (by decide +kernel) (pa_cons (pe_fld (pv 0) rfl) pa_nil)) pa_nil))) (pss_one ps_retN)) pss_nil)
      (pss_cons (ps_set (i := 3) nd rfl (.inl rfl) (pe_ix ix_list (pv 2) pe_int (fun _ _ => rfl)))
      (pss_one (ps_for PassesOwn.never rfl (pi_list (pe_c cT hr (show 1 ≤ 3 + D by omega) (by rfl) (pa_cons (pe_fld (pv 0) rfl) (pa_cons (pe_fld (pv 0) rfl) (pa_cons (pv 3) pa_nil))))) (pg_name (i := 4) nd rfl (.inl rfl))
        (pss_cons (ps_set (i := 5) nd rfl (.inl rfl) (pe_tupleOf (by rfl) zT (pe_callB cr_sortedTup (by rfl) zS (by decide +kernel) (pa_cons (pe_tup (StX.pa_star (pv 3) (pa_cons (pv 4) pa_nil))) pa_nil))))
        (pss_cons (ps_expr (pe_m mP hr hr2 (pv 0) (pa_cons (pv 5) pa_nil)))
        (pss_cons (ps_expr (pe_m mR hr (Nat.le_refl _) (pv 0) (pa_cons (pv 1) pa_nil)))
        (pss_cons (ps_expr (pe_m mT hr hr2 (pv 0) (pa_cons (pv 5) pa_nil)))
        (pss_one (ps_if (PW.pt (pw_and (pt_cmpR op_notN (pv 1) pe_non (nomark _)) (pw_and1 (pt_cmpR op_ge (pe_callB call_len_seq (by rfl) zL PySem.boot_len (pa_cons (pe_fld (pv 0) rfl) pa_nil)) (pv 1) (nomark _))))) (pss_one ps_retN) pss_nil)))))))))), ?_⟩
    refine ⟨_, rfl, p, C, dx, _, _, rfl, hp, T.cl, T.n1, rfl, _, rfl, p, C, dx, _, _, rfl, hp, T.cl, T.n4, rfl, ?_⟩
    refine ⟨n, d, _, hl Ts, rfl, by omega, S.hld, kv1_has _, fun H1 lf s1 hlf hL => ?_⟩
    obtain ⟨zs, hz, hpz⟩ := hL
    have S1 : SrA C H1 p l d w n lim Ts wh k := ⟨⟨dx, s1 _ _ hp⟩, S.thr.same s1, s1 _ _ S.hld, S.whl.keep (fun b ys _ e => s1 _ _ e) (Tups.of s1) S.lw, S.lw⟩
    cases e0 : openOf n (hl Ts) with
    | nil =>
      rw [e0] at hpz
      cases hpz
      refine ⟨_, rfl, _, .inl ⟨[], SqL.of hz, rfl⟩, ?_⟩
      obtain ⟨xs, hw, hpw⟩ := S.whl
      refine ⟨_, rfl, p, C, dx, _, _, rfl, s1 _ _ hp, T.cl, T.n6, rfl, .inl ⟨rfl, _, SqL.of (s1 _ _ hw)⟩, ?_⟩
      refine ⟨_, rfl, p, C, dx, _, _, rfl, s1 _ _ hp, T.cl, T.n3, rfl, ?_⟩
      refine tn (sorted_trs (S.thr.same s1) (by have := sys_len hn Y; omega) (run_low hn Y) fun q ys hq hys => ?_)
      obtain ⟨S2, b2, t2⟩ := note_whole S1 hq hys (s1 _ _ hw) (dx := dx) rfl
      refine ⟨w, xs, _, rfl, rfl, (same_upd hq) _ _ (s1 _ _ hw), ?_, ?_⟩
      · have := Paired.length hpw
        exact lt_ln (by omega)
      refine kk _ k ((But.of s1).trans b2) ((Tups.of s1).trans t2) (by omega) ?_
      have ea : after one wh (comps n (D + 1) Ts) = wh ++ [sortT Ts] := by
        rw [comps_nil e0]
        unfold after
        cases one with
        | false => rfl
        | true => rw [if_pos rfl, hone rfl]; rfl
      rw [ea]
      exact S2
    | cons pr rest =>
      rw [e0] at hpz
      have hpr : pr ∈ openOf n (hl Ts) := by rw [e0]; exact List.mem_cons_self
      have h12 : pr.1 < pr.2 := (mem_openOf.mp hpr).1.1
      obtain ⟨z0, zr, rfl, hz0⟩ : ∃ z0 zr, zs = z0 :: zr ∧ IsPr H1 z0 pr := by
        cases hpz with
        | cons r t => exact ⟨_, _, rfl, r⟩
      obtain ⟨qp, rfl, hqp⟩ := hz0
      refine ⟨_, rfl, _, .inl ⟨_, SqL.of hz, rfl⟩, ?_⟩
      refine ⟨_, rfl, lf, _, _, _, rfl, rfl, SqL.of hz, atI_nat (j := 0) rfl, ?_⟩
      refine ⟨_, rfl, p, C, dx, _, _, rfl, s1 _ _ hp, T.cl, T.n1, rfl, _, rfl, p, C, dx, _, _, rfl, s1 _ _ hp, T.cl, T.n4, rfl, _, rfl, ?_⟩
      refine ⟨n, d, qp, _, hl Ts, pr, rfl, by omega, s1 _ _ S.hld, kv1_has _, hqp, fun H2 tl s2 htl hTl => ?_⟩
      have S2 : SrA C H2 p l d w n lim Ts wh k := ⟨⟨dx, s2 _ _ (s1 _ _ hp)⟩, S1.thr.same s2, s2 _ _ S1.hld, S1.whl.keep (fun b ys _ e => s2 _ _ e) (Tups.of s2) S.lw, S.lw⟩
      -- the list of the thirds stands apart
      have htp : tl ≠ p := fun z => by rw [z, s1 _ _ hp] at htl; cases htl
      have htl1 : tl ≠ l := fun z => by obtain ⟨_, e, _⟩ := S1.thr; rw [z, e] at htl; cases htl
      have htd : tl ≠ d := fun z => by rw [z, S1.hld] at htl; cases htl
      have htw : tl ≠ w := fun z => by obtain ⟨_, e, _⟩ := S1.whl; rw [z, e] at htl; cases htl
      have hnot : tl ∉ [p, l, d, w] := by simp [htp, htl1, htd, htw]
      have hthn := thirds_le hpr ho
      refine ⟨tl, rfl, ⟨_, SqL.of hTl⟩, for_list (K := K) (a := tl) (xs := (thirdsOf n (hl Ts) pr).map vI)
        (fun i σ H3 => ∃ (v4 v5 : Option V) (k' : Nat), σ = [some (.ref p), some (mostV one), some (.ref lf), some (.ref qp), v4, v5] ∧ But [p, l, d, w] H2 H3 ∧ Tups H2 H3 ∧ k' ≤ k + i * (1 + tries D) ∧
          (one = true → ((thirdsOf n (hl Ts) pr).take i).flatMap (fun c => comps n D (Ts ++ [tri pr c])) = []) ∧
          SrA C H3 p l d w n lim Ts (after one wh (((thirdsOf n (hl Ts) pr).take i).flatMap fun c => comps n D (Ts ++ [tri pr c]))) k')
        ⟨none, none, k, rfl, But.refl _ _, Tups.refl _, by omega, fun _ => rfl, by
          show SrA C H2 p l d w n lim Ts (after one wh []) k
          rw [after_nil hone]; exact S2⟩ (fun i σ H3 _ ⟨_, _, _, _, b, _⟩ => SqL.of (b _ _ hnot hTl)) ?_ ?_⟩
      · rintro i x σ H3 hi ⟨v4, v5, k', rfl, b3, t3, hk', hem, S3⟩
        rw [List.getElem?_map] at hi
        obtain ⟨c, hc, rfl⟩ := Option.map_eq_some_iff.mp hi
        have hcm : c ∈ thirdsOf n (hl Ts) pr := List.mem_of_getElem? hc
        have hil : i < (thirdsOf n (hl Ts) pr).length := (List.getElem?_eq_some_iff.mp hc).1
        have Yc := sys_put Y hpr hcm
        -- three = tuple(sorted((*pair, third)))
        refine ⟨_, rfl, qp, _, rfl, .inl (SqT.of (t3 _ _ (s2 _ _ hqp))), _, rfl, ln (by show 3 ≤ 100000; decide), fun t1 ht1 => ?_⟩
        have sA := same_upd (o := .tup (prV pr ++ [vI c])) ht1
        refine tn (sorted_tri (t := (pr.1, pr.2, c)) ⟨t1, rfl, upd_same⟩ fun l1 hl1 => ?_)
        refine .inl ⟨l1, _, rfl, SqL.of upd_same, fun q hq => ?_⟩
        have es : srt (pr.1, pr.2, c) = tri pr c := by
          show tri (op pr.1 pr.2) c = _
          rw [opr_lt h12]
        rw [es] at hq ⊢
        have sB := same_upd (o := .lst (trV (tri pr c))) hl1
        have sC := same_upd (o := .tup (trV (tri pr c))) hq
        have sABC := sA.trans (sB.trans sC)
        have hq3 := upd_same (H := upd (upd H3 t1 (.tup (prV pr ++ [vI c]))) l1 (.lst (trV (tri pr c)))) (a := q) (o := .tup (trV (tri pr c)))
        generalize hG : upd (upd (upd H3 t1 (.tup (prV pr ++ [vI c]))) l1 (.lst (trV (tri pr c)))) q (.tup (trV (tri pr c))) = G at *
        have SG : SrA C G p l d w n lim Ts (after one wh (((thirdsOf n (hl Ts) pr).take i).flatMap fun c => comps n D (Ts ++ [tri pr c]))) k' := by
          obtain ⟨dx3, hp3⟩ := S3.ins
          exact ⟨⟨dx3, sABC _ _ hp3⟩, S3.thr.same sABC, sABC _ _ S3.hld, S3.whl.keep (fun b ys _ e => sABC _ _ e) (Tups.of sABC) S3.lw, S3.lw⟩
        obtain ⟨dxG, hpG⟩ := SG.ins
        have hmul : (i + 1) * (1 + tries D) ≤ (3 * D + 2) * (1 + tries D) := Nat.mul_le_mul_right _ (by omega)
        have etr : tries (D + 1) = (3 * D + 2) * (1 + tries D) := rfl
        have hmul2 : (i + 1) * (1 + tries D) = i * (1 + tries D) + (1 + tries D) := Nat.succ_mul _ _
        have hlenT := sys_len hn Y
        -- self.put(three)
        refine ⟨_, rfl, p, dxG, _, rfl, hpG, rfl, _, rfl, ?_⟩
        refine ⟨p, q, l, d, w, n, lim, Ts, _, k', tri pr c, rfl, SG, hq3, ?_, by omega, by omega, fun H4 b4 t4 S4 => ?_⟩
        · rw [← hl_snoc]; exact Yc.nd
        obtain ⟨dx4, hp4⟩ := S4.ins
        -- self.run(most)
        refine ⟨_, rfl, p, dx4, _, rfl, hp4, rfl, _, rfl, ?_⟩
        have ho4 : (openOf n (hl (Ts ++ [tri pr c]))).length ≤ 3 * D := by have := open_put Y hpr hcm; omega
        have hwl4 : (after one wh (((thirdsOf n (hl Ts) pr).take i).flatMap fun c => comps n D (Ts ++ [tri pr c]))).length + 1 + tries D ≤ 60000 := by
          have a1 := after_len one wh (((thirdsOf n (hl Ts) pr).take i).flatMap fun c => comps n D (Ts ++ [tri pr c]))
          have a2 := flat_len (f := fun c => comps n D (Ts ++ [tri pr c])) (m := 1 + tries D) ((thirdsOf n (hl Ts) pr).take i) fun c hc => by
            have hm := List.mem_of_mem_take hc
            exact comps_len hn (sys_put Y hpr hm) (by have := open_put Y hpr hm; omega)
          rw [List.length_take, Nat.min_eq_left (by omega)] at a2
          omega
        refine ⟨p, l, d, w, n, lim, Ts ++ [tri pr c], _, k' + 1, one, rfl, S4, Yc, hn, ho4, by omega, ?_, hwl4, fun H5 k5 b5 t5 hk5 S5 => ?_⟩
        · intro h1
          rw [hem h1, after_nil hone]
          exact hone h1
        obtain ⟨dx5, hp5⟩ := S5.ins
        -- self.take(three)
        refine ⟨_, rfl, p, dx5, _, rfl, hp5, rfl, _, rfl, ?_⟩
        refine ⟨p, q, l, d, w, n, lim, Ts, _, k5, tri pr c, rfl, S5, t5 _ _ (t4 _ _ hq3), ?_, fun H6 b6 t6 S6 => ?_⟩
        · rw [← hl_snoc]; exact Yc.nd
        have bAll : But [p, l, d, w] H2 H6 := b3.trans ((But.of sABC).trans (b4.trans (b5.trans b6)))
        have tAll : Tups H2 H6 := t3.trans ((Tups.of sABC).trans (t4.trans (t5.trans t6)))
        have hk6 : k5 ≤ k + (i + 1) * (1 + tries D) := by omega
        have eflat : ((thirdsOf n (hl Ts) pr).take (i + 1)).flatMap (fun c => comps n D (Ts ++ [tri pr c])) = ((thirdsOf n (hl Ts) pr).take i).flatMap (fun c => comps n D (Ts ++ [tri pr c])) ++ comps n D (Ts ++ [tri pr c]) := by
          rw [take_more hc, List.flatMap_append]
          simp
        obtain ⟨dx6, hp6⟩ := S6.ins
        cases one with
        | false =>
          refine ⟨_, rfl, rfl, _, rfl, ?_⟩
          refine ⟨_, _, k5, rfl, bAll, tAll, hk6, (fun z => nomatch z), ?_⟩
          rw [eflat]
          have : after false wh (((thirdsOf n (hl Ts) pr).take i).flatMap (fun c => comps n D (Ts ++ [tri pr c])) ++ comps n D (Ts ++ [tri pr c])) = after false (after false wh (((thirdsOf n (hl Ts) pr).take i).flatMap fun c => comps n D (Ts ++ [tri pr c]))) (comps n D (Ts ++ [tri pr c])) := by
            show wh ++ (_ ++ _) = (wh ++ _) ++ _
            rw [List.append_assoc]
          rw [this]
          exact S6
        | true =>
          have hw0 : wh = [] := hone rfl
          have hem' := hem rfl
          rw [hem', after_nil hone, hw0] at S6
          obtain ⟨xs6, hw6, hpw6⟩ := S6.whl
          have hlen6 := Paired.length hpw6
          refine ⟨_, rfl, rfl, _, rfl, ?_⟩
          refine ⟨_, rfl, p, C, dx6, _, _, rfl, hp6, T.cl, T.n6, rfl, w, _, rfl, .inl (SqL.of hw6), _, rfl, _, _, rfl, rfl, _, rfl, ?_⟩
          cases ec : comps n D (Ts ++ [tri pr c]) with
          | nil =>
            rw [ec] at hlen6 S6
            rw [hlen6]
            refine ⟨_, _, k5, rfl, bAll, tAll, hk6, fun _ => by rw [eflat, hem', ec]; rfl, ?_⟩
            rw [eflat, hem', ec, hw0]
            exact S6
          | cons v r =>
            rw [ec] at hlen6 S6
            rw [hlen6]
            refine kk H6 k5 ((But.of (s1.trans s2)).trans bAll) ((Tups.of (s1.trans s2)).trans tAll) (by omega) ?_
            have efull : after true wh (comps n (D + 1) Ts) = [v] := by
              rw [comps_cons e0, hw0]
              have hsplit : thirdsOf n (hl Ts) pr = (thirdsOf n (hl Ts) pr).take (i + 1) ++ (thirdsOf n (hl Ts) pr).drop (i + 1) := (List.take_append_drop _ _).symm
              rw [hsplit, List.flatMap_append, eflat, hem', ec]
              rfl
            rw [efull]
            exact S6
      · rintro σ H3 ⟨v4, v5, k', rfl, b3, t3, hk', hem, S3⟩
        rw [List.length_map] at hk' S3 hem
        rw [List.take_length] at S3 hem
        have hmul : (thirdsOf n (hl Ts) pr).length * (1 + tries D) ≤ (3 * D + 2) * (1 + tries D) := Nat.mul_le_mul_right _ (by omega)
        have etr : tries (D + 1) = (3 * D + 2) * (1 + tries D) := rfl
        refine kk H3 k' ((But.of (s1.trans s2)).trans b3) ((Tups.of (s1.trans s2)).trans t3) (by omega) ?_
        rw [comps_cons e0]
        exact S3
end
end K30
end

section
set_option Elab.async false
set_option autoImplicit false
set_option linter.all false
set_option maxRecDepth 100000
set_option maxHeartbeats 4000000
namespace K30
open PySem L2
/-- a class that may be made by its name; sp: its __init__ -/
structure Mak (P : Program) (w : World) (K : PySem.W.Frag) (mg : Str → Option Value) (base : Heap) (CX : CXT) (k : Nat) (x : Str) (C : Addr) (sp : Sp) : Prop where
  got : ∃ (f : Addr) (fd : FuncData) (ps : List Str), (FnOk P w K mg base CX k f fd ps sp ∧ Mk K C f) ∧ (mg x = some (.ref C) ∧ Binds K fd ps [])
section
variable {X : Cx} {k j : Nat} {C : Addr} {x : Str} {sp : Sp} {CX : CXT} {E : XK} {p pos : Pos} {e : Expr} {es : List Expr} {t : TA}
theorem pe_mkE (c : Mak X.prog X.w X.K X.mg X.base CX k x C sp) (hr : Room j X.A) (hk : k + 1 ≤ j) (hx : Passes CX X E) (hg : Gl X x) (ha : PA X (e :: es) t)
    (h1 : (x == ("__debug__" : Str)) = false := by decide) (h2 : starEach (e :: es) X.env = (false, eval e X.env) :: starEach es X.env := by rfl) (h3 : (backTo pos (starEach es X.env)).any (·.1) = false := by rfl) :
    PE X (.Call (.Name x p) (e :: es) [] pos) (tMake C sp [] E t) :=
  let ⟨_, _, _, ⟨F, M⟩, ⟨hm, b⟩⟩ := c.got
  pe_make M F (hr.mono hk) hg hm b .nil hx ha h1 h2 h3
end
/-- what is new at a making: the class's __init__ leaves the rest -/
theorem made_same {H H1 H2 : Hp} {x dx l d w : Addr} {o : HO} (hx : H x = none) (hdx : H dx = none) (b1 : But [x] (upd (upd H dx (.own x)) x o) H1) (hl : upd (upd H dx (.own x)) x o l = none) (hd : upd (upd H dx (.own x)) x o d = none) (hw : upd (upd H dx (.own x)) x o w = none)
    (b2 : But [x, l, d, w] H1 H2) : Same H H2 := fun b u e => by
  have n1 : b ≠ x := ne_of_none e hx
  have n2 : b ≠ dx := ne_of_none e hdx
  have e0 : upd (upd H dx (.own x)) x o b = some u := by rw [upd_ne n1, upd_ne n2]; exact e
  have n3 : b ≠ l := ne_of_none e0 hl
  have n4 : b ≠ d := ne_of_none e0 hd
  have n5 : b ≠ w := ne_of_none e0 hw
  exact b2 _ _ (by simp [n1, n3, n4, n5]) (b1 _ _ (by simp [n1]) e0)
section
variable {P : Program} {w0 : World} {K : PySem.W.Frag} {mg : Str → Option Value} {base : Heap}
theorem raw_made {H : Hp} {n : Nat} {a : Addr} {ts : List Tri} {x dx : Addr} {o : HO} (h : Raw H n a ts) (hx : H x = none) (hdx : H dx = none) (hne : dx ≠ x) : Raw (upd (upd H dx (.own x)) x o) n a ts :=
  h.same ((same_upd hdx).trans (same_upd (by rw [upd_ne hne.symm]; exact hx)))

/-! ### Search.__init__, refused -/
def spSInitX (C CI : Addr) : Sp := fun vs H _ E => ∃ (p a dx : Addr) (n lim : Nat) (ts : List Tri), vs = [.ref p, vI n, .ref a, vI lim] ∧ H p = some (.ins C dx []) ∧ Raw H n a ts ∧ ¬ (hl (sortT (ts.map srt))).Nodup ∧ ∀ H' : Hp, But [p] H H' → E (.ref CI) none H'
theorem ok_sinitX {f f2 C CI : Addr} {fd fd2 : FuncData} (F : Fun K "__init__" "Search.__init__" sSInit f fd) (T : ClsS K C) (FK : FnOk P w0 K mg base (L2.CX P w0) 3 f2 fd2 ["count", "threes"] (spKeptX CI)) (mK : mg "kept_threes" = some (.ref f2)) (kK : PySem.W.keepIn K (.ref f2) = true) (bK : Binds K fd2 ["count", "threes"] []) :
    FnOk P w0 K mg base (L2.CX P w0) 4 f fd ["self", "count", "threes", "limit"] (spSInitX C CI) := by
  refine F.okX scSInit (fun vs H Q E h => ?_) (fun cdv A outer s H vs Q E hr h => ?_)
  · obtain ⟨p, a, dx, n, lim, ts, rfl, _⟩ := h
    rfl
  · obtain ⟨p, a, dx, n, lim, ts, rfl, hp, hR, hN, k⟩ := h
    refine ⟨_, pss_cons (ps_fld (pv 0) (pv 1) rfl) (pss_cons (ps_fld (pv 0) (pv 3) rfl)
      (pss_cons (ps_fld (pv 0) (pe_call FK hr (by rfl) mK kK bK .nil (passes_call (takes_of rfl rfl rfl rfl) (fun _ _ _ _ z => z)) (pa_cons (pv 1) (pa_cons (pv 2) pa_nil))) rfl) pss_never)), ?_⟩
    refine ⟨_, rfl, _, rfl, p, C, dx, _, rfl, hp, T.cl, T.n1, (by decide), ?_⟩
    refine ⟨_, rfl, _, rfl, p, C, dx, _, rfl, upd_same, T.cl, T.n2, (by show 1 < 1000; decide), ?_⟩
    rw [upd_upd]
    refine ⟨_, rfl, _, rfl, n, a, ts, rfl, hR.keep (lists_upd hp fun _ z => nomatch z) (tups_upd hp fun _ z => nomatch z), hN, fun H1 s1 => ?_⟩
    exact k H1 ((but_upd List.mem_cons_self).trans (But.of s1))

/-! ### complete -/
def spComp : Sp := fun vs H Q _ => ∃ (n : Nat) (a : Addr) (ts : List Tri) (v : List Tri) (r : List (List Tri)), vs = [vI n, .ref a, vI 20000] ∧ Raw H n a ts ∧ n ≤ 13 ∧ Sys n (sortT (ts.map srt)) ∧ (openOf n (hl (sortT (ts.map srt)))).length ≤ 15 ∧ comps n 5 (sortT (ts.map srt)) = v :: r ∧
  ∀ (H' : Hp) (q : Addr), Same H H' → TrL H' q v → Q (.ref q) H'
theorem scComp : FnScope ["count", "threes", "limit", "search"] ["count", "threes", "limit"] (defScope sComplete) := ⟨rfl, rfl, rfl, by decide +kernel, rfl, by decide +kernel, by decide +kernel⟩
theorem ok_comp {f C : Addr} {fd : FuncData} {dvs : List V} {kws : List (Str × V)} (F : FunD K "complete" "complete" (defArgs sComplete) (defBody sComplete) (defScope sComplete) dvs kws f fd) (T : ClsS K C) (cS : Mak P w0 K mg base CX0 4 "Search" C (spSInit C)) (mR : MCal P w0 K mg base 8 C "run" (spRun C 5)) :
    FnOk P w0 K mg base CX0 9 f fd ["count", "threes", "limit"] spComp := by
  refine F.ok scComp (fun vs H Q E h => ?_) (fun cdv A outer s H vs Q E hr h => ?_)
  · obtain ⟨n, a, ts, v, r, rfl, _⟩ := h
    rfl
  · obtain ⟨n, a, ts, v, r, rfl, hR, hn, Y, ho, hc, k⟩ := h
    have nd := scComp.nd
    refine ⟨_, pss_cons (ps_set (i := 3) nd rfl (.inl rfl) (pe_mkE cS hr (by decide) pass0 (by rfl) (pa_cons (pv 0) (pa_cons (pv 1) (pa_cons (pv 2) pa_nil)))))
      (pss_cons (ps_expr (pe_m mR hr (by decide) (pv 3) (pa_cons pe_int pa_nil)))
      (pss_one (ps_ret (pe_ifExp (pt_truth (pe_fld (pv 3) rfl) (by intro _; rfl)) (pe_ix ix_list (pe_fld (pv 3) rfl) pe_int (fun _ _ => rfl)) pe_non)))), ?_⟩
    refine ⟨_, rfl, _, rfl, _, rfl, fun x dx hx hdx hne => ?_⟩
    refine ⟨x, a, dx, n, 20000, ts, rfl, upd_same, raw_made hR hx hdx hne, Y.nd, fun H1 l d w b1 hl0 hd0 hw0 S => ⟨rfl, ?_⟩⟩
    obtain ⟨dx1, hp1⟩ := S.ins
    refine ⟨_, rfl, x, dx1, _, rfl, hp1, rfl, ?_⟩
    refine ⟨x, l, d, w, n, 20000, _, [], 0, true, rfl, S, Y, hn, ho, by rw [tries5]; decide, fun _ => rfl, by rw [tries5]; decide, fun H2 k' b2 t2 _ S2 => ?_⟩
    obtain ⟨dx2, hp2⟩ := S2.ins
    rw [hc] at S2
    obtain ⟨xs, hw2, hpw⟩ := S2.whl
    obtain ⟨q, rfl, hTq⟩ : ∃ q, xs = [.ref q] ∧ TrL H2 q v := by
      cases hpw with
      | cons r t =>
        cases t
        obtain ⟨q, rfl, _, _, h⟩ := r
        exact ⟨q, rfl, h⟩
    refine ⟨_, rfl, x, C, dx2, _, _, rfl, hp2, T.cl, T.n6, rfl, _, .inl ⟨_, SqL.of hw2, rfl⟩, ?_⟩
    refine ⟨_, rfl, x, C, dx2, _, _, rfl, hp2, T.cl, T.n6, rfl, w, _, _, _, rfl, rfl, SqL.of hw2, atI_nat (j := 0) rfl, ?_⟩
    exact k H2 q (made_same hx hdx b1 hl0 hd0 hw0 b2) hTq
/-- .. refused -/
def spCompX (CI : Addr) : Sp := fun vs H _ E => ∃ (n : Nat) (a : Addr) (ts : List Tri), vs = [vI n, .ref a, vI 20000] ∧ Raw H n a ts ∧ ¬ (hl (sortT (ts.map srt))).Nodup ∧ ∀ H' : Hp, Same H H' → E (.ref CI) none H'
theorem ok_compX {f C CI : Addr} {fd : FuncData} {dvs : List V} {kws : List (Str × V)} (F : FunD K "complete" "complete" (defArgs sComplete) (defBody sComplete) (defScope sComplete) dvs kws f fd) (cS : Mak P w0 K mg base (L2.CX P w0) 4 "Search" C (spSInitX C CI)) :
    FnOk P w0 K mg base (L2.CX P w0) 9 f fd ["count", "threes", "limit"] (spCompX CI) := by
  refine F.ok scComp (fun vs H Q E h => ?_) (fun cdv A outer s H vs Q E hr h => ?_)
  · obtain ⟨n, a, ts, rfl, _⟩ := h
    rfl
  · obtain ⟨n, a, ts, rfl, hR, hN, k⟩ := h
    have nd := scComp.nd
    refine ⟨_, pss_cons (ps_set (i := 3) nd rfl (.inl rfl) (pe_mkE cS hr (by decide) (passes_call (takes_of rfl rfl rfl rfl) (fun _ _ _ _ z => z)) (by rfl) (pa_cons (pv 0) (pa_cons (pv 1) (pa_cons (pv 2) pa_nil))))) pss_never, ?_⟩
    refine ⟨_, rfl, _, rfl, _, rfl, fun x dx hx hdx hne => ?_⟩
    refine ⟨x, a, dx, n, 20000, ts, rfl, upd_same, raw_made hR hx hdx hne, hN, fun H1 b1 => k H1 fun b u e => ?_⟩
    have n1 : b ≠ x := ne_of_none e hx
    have n2 : b ≠ dx := ne_of_none e hdx
    exact b1 _ _ (by simp [n1]) (by rw [upd_ne n1, upd_ne n2]; exact e)

/-! ### completion_count -/
def spCnt : Sp := fun vs H Q _ => ∃ (n : Nat) (a : Addr) (ts : List Tri), vs = [vI n, .ref a, vI 20000] ∧ Raw H n a ts ∧ n ≤ 13 ∧ Sys n (sortT (ts.map srt)) ∧ (openOf n (hl (sortT (ts.map srt)))).length ≤ 15 ∧
  ∀ H' : Hp, Same H H' → Q (vI (comps n 5 (sortT (ts.map srt))).length) H'
theorem scCnt : FnScope ["count", "threes", "limit", "search"] ["count", "threes", "limit"] (defScope sCount) := ⟨rfl, rfl, rfl, by decide +kernel, rfl, by decide +kernel, by decide +kernel⟩
theorem ok_cnt {f C : Addr} {fd : FuncData} {dvs : List V} {kws : List (Str × V)} (F : FunD K "completion_count" "completion_count" (defArgs sCount) (defBody sCount) (defScope sCount) dvs kws f fd) (T : ClsS K C) (cS : Mak P w0 K mg base CX0 4 "Search" C (spSInit C)) (mR : MCal P w0 K mg base 8 C "run" (spRun C 5)) (zL : mg "len" = none) :
    FnOk P w0 K mg base CX0 9 f fd ["count", "threes", "limit"] spCnt := by
  refine F.ok scCnt (fun vs H Q E h => ?_) (fun cdv A outer s H vs Q E hr h => ?_)
  · obtain ⟨n, a, ts, rfl, _⟩ := h
    rfl
  · obtain ⟨n, a, ts, rfl, hR, hn, Y, ho, k⟩ := h
    have nd := scCnt.nd
    refine ⟨_, pss_cons (ps_set (i := 3) nd rfl (.inl rfl) (pe_mkE cS hr (by decide) pass0 (by rfl) (pa_cons (pv 0) (pa_cons (pv 1) (pa_cons (pv 2) pa_nil)))))
      (pss_cons (ps_expr (pe_m mR hr (by decide) (pv 3) (pa_cons pe_non pa_nil)))
      (pss_one (ps_ret (pe_callB call_len_seq (by rfl) zL PySem.boot_len (pa_cons (pe_fld (pv 3) rfl) pa_nil))))), ?_⟩
    refine ⟨_, rfl, _, rfl, _, rfl, fun x dx hx hdx hne => ?_⟩
    refine ⟨x, a, dx, n, 20000, ts, rfl, upd_same, raw_made hR hx hdx hne, Y.nd, fun H1 l d w b1 hl0 hd0 hw0 S => ⟨rfl, ?_⟩⟩
    obtain ⟨dx1, hp1⟩ := S.ins
    refine ⟨_, rfl, x, dx1, _, rfl, hp1, rfl, ?_⟩
    refine ⟨x, l, d, w, n, 20000, _, [], 0, false, rfl, S, Y, hn, ho, by rw [tries5]; decide, (fun z => nomatch z), by rw [tries5]; decide, fun H2 k' b2 t2 _ S2 => ?_⟩
    obtain ⟨dx2, hp2⟩ := S2.ins
    obtain ⟨xs, hw2, hpw⟩ := S2.whl
    refine ⟨_, rfl, x, C, dx2, _, _, rfl, hp2, T.cl, T.n6, rfl, w, _, rfl, .inl (SqL.of hw2), ?_⟩
    rw [Paired.length hpw]
    exact k H2 (made_same hx hdx b1 hl0 hd0 hw0 b2)
end
end K30
end

section
set_option Elab.async false
set_option autoImplicit false
set_option linter.all false
set_option maxRecDepth 100000
set_option maxHeartbeats 4000000
namespace K30
open PySem L2
theorem hu65 {A : Around} {k : Nat} (hr : Room k A) : A.units + 65 < cLine := by have := hr.un; omega
theorem hu64 {A : Around} {k : Nat} (hr : Room k A) : A.units + 64 < cLine := by have := hr.un; omega
/-! ### threes as data -/
def trD (t : Tri) : PyData := .tuple [.int t.1, .int t.2.1, .int t.2.2]
theorem trD_lay (t : Tri) : (trD t).canLay0 = true := by simp [trD, PyData.canLay0, PyData.canLayAll0]
theorem trD_depth (t : Tri) : (trD t).depth = 1 := by simp [trD, PyData.depth, PyData.depthAll]
theorem trDs_lay : ∀ ts : List Tri, PyData.canLayAll0 (ts.map trD) = true
  | [] => by simp [PyData.canLayAll0]
  | t :: ts => by simp [PyData.canLayAll0, trD_lay t, trDs_lay ts]
theorem trDs_depth : ∀ ts : List Tri, PyData.depthAll (ts.map trD) ≤ 1
  | [] => by simp [PyData.depthAll]
  | t :: ts => by
    have h1 := trDs_depth ts
    have h2 := trD_depth t
    simp only [List.map_cons, PyData.depthAll]
    omega
theorem trDs_depth' (ts : List Tri) : PyData.depth (.list (ts.map trD)) ≤ 2 := by
  have := trDs_depth ts
  simp only [PyData.depth]
  omega
theorem trD_shaped (t : Tri) : SeqAt.shaped (trD t) = true := by
  show ((trD t).canLay0 && decide ((trD t).depth ≤ 64)) = true
  rw [Bool.and_eq_true]
  exact ⟨trD_lay t, decide_eq_true (by rw [trD_depth]; decide)⟩
theorem trDs_shaped (ts : List Tri) : SeqAt.shaped (.list (ts.map trD)) = true := by
  show (PyData.canLay0 (.list (ts.map trD)) && decide (PyData.depth (.list (ts.map trD)) ≤ 64)) = true
  rw [Bool.and_eq_true]
  exact ⟨by simp only [PyData.canLay0]; exact trDs_lay ts, decide_eq_true (Nat.le_trans (trDs_depth' ts) (by decide))⟩
theorem trD_eqv (t u : Tri) : PyData.eqv (trD t) (trD u) = decide (t = u) := by
  obtain ⟨a, b, c⟩ := t
  obtain ⟨a', b', c'⟩ := u
  have e : PyData.eqv (trD (a, b, c)) (trD (a', b', c')) = (((a : Int) == (a' : Int)) && (((b : Int) == (b' : Int)) && (((c : Int) == (c' : Int)) && true))) := by simp only [trD, PyData.eqv, PyData.eqvAll]
  rw [e]
  by_cases h : ((a, b, c) : Tri) = (a', b', c')
  · cases h
    simp
  · rw [decide_eq_false h]
    refine Bool.eq_false_iff.mpr fun z => h ?_
    simp only [Bool.and_true, Bool.and_eq_true, beq_iff_eq] at z
    rw [Int.ofNat_inj.mp z.1, Int.ofNat_inj.mp z.2.1, Int.ofNat_inj.mp z.2.2]
theorem IsTr.dp {K : PySem.W.Frag} {H : Hp} {v : V} {t : Tri} (h : IsTr H v t) : Dp K H v (trD t) := by
  obtain ⟨q, rfl, e⟩ := h
  exact .tup (SqT.of e) (.cons (.int _) (.cons (.int _) (.cons (.int _) .nil)))
theorem trs_dp {K : PySem.W.Frag} {H : Hp} : ∀ {xs : List V} {ts : List Tri}, Paired (IsTr H) xs ts → DpAll K H xs (ts.map trD)
  | _, _, .nil => .nil
  | _, _, .cons r t => .cons r.dp (trs_dp t)
theorem TrL.dp {K : PySem.W.Frag} {H : Hp} {a : Addr} {ts : List Tri} (h : TrL H a ts) : Dp K H (.ref a) (.list (ts.map trD)) := by
  obtain ⟨xs, e, p⟩ := h
  exact .lst (SqL.of e) (trs_dp p)
theorem any_eqv (ts : List Tri) (t : Tri) : ((ts.map trD).any fun z => PyData.eqv z (trD t)) = decide (t ∈ ts) := by
  rw [List.any_map]
  by_cases h : t ∈ ts
  · rw [decide_eq_true h]
    exact List.any_eq_true.mpr ⟨t, h, by show PyData.eqv (trD t) (trD t) = true; rw [trD_eqv]; exact decide_eq_true rfl⟩
  · rw [decide_eq_false h]
    refine Bool.eq_false_iff.mpr fun z => ?_
    obtain ⟨u, hu, e⟩ := List.any_eq_true.mp z
    have e2 : PyData.eqv (trD u) (trD t) = true := e
    rw [trD_eqv, decide_eq_true_eq] at e2
    rw [e2] at hu
    exact h hu
/-! ### threes that stand in order are what they become -/
theorem srt_id {n : Nat} {ts : List Tri} (h : ∀ t ∈ ts, okT n t) : ts.map srt = ts := (List.map_congr_left fun t ht => srt_ok (h t ht)).trans (List.map_id ts)
theorem sort_id {n : Nat} {ts : List Tri} (h : ∀ t ∈ ts, okT n t) (hs : ts.Pairwise leT) : sortT (ts.map srt) = ts := by rw [srt_id h, sortT_self hs]
theorem sorted_ok {n : Nat} {ts : List Tri} (h : ∀ t ∈ ts, dif n t) : ∀ t ∈ sortT (ts.map srt), okT n t := fun t ht => by
  obtain ⟨u, hu, rfl⟩ := List.mem_map.mp ((sortT_perm _).mem_iff.mp ht)
  exact srt_dif (h u hu)
theorem raw_of {H : Hp} {n : Nat} {a : Addr} {ts : List Tri} (h1 : 1 ≤ n) (h2 : n ≤ 60) (hT : TrL H a ts ∨ TrT H a ts) (h : ∀ t ∈ ts, okT n t) (hl : ts.length < 64) : Raw H n a ts := ⟨h1, h2, hT, fun t ht => okT_dif (h t ht), hl⟩
section
variable {P : Program} {w0 : World} {K : PySem.W.Frag} {mg : Str → Option Value} {base : Heap}

/-! ### is_completion, of a whole system that has all threes -/
def spIsComp : Sp := fun vs H Q _ => ∃ (n : Nat) (a b : Addr) (ts ws : List Tri), vs = [vI n, .ref a, .ref b] ∧ Raw H n a ts ∧ (hl (sortT (ts.map srt))).Nodup ∧ Raw H n b ws ∧ Whole n (sortT (ws.map srt)) ∧ (∀ t ∈ sortT (ts.map srt), t ∈ sortT (ws.map srt)) ∧ ∀ H' : Hp, Same H H' → Q (.bl true) H'
theorem scIsComp : FnScope ["count", "threes", "whole", "own", "told", "three"] ["count", "threes", "whole"] (defScope sIsComp) := ⟨rfl, rfl, rfl, by decide +kernel, rfl, by decide +kernel, by decide +kernel⟩
theorem ok_iscomp {f : Addr} {fd : FuncData} (F : Fun K "is_completion" "is_completion" sIsComp f fd) (cK : Cal P w0 K mg base 3 "kept_threes" spKept []) (cP : Cal P w0 K mg base 2 "plain_threes" spPlain []) (cW : Cal P w0 K mg base 4 "is_whole" spWhole []) (zA : mg "all" = none) :
    FnOk P w0 K mg base CX0 5 f fd ["count", "threes", "whole"] spIsComp := by
  refine F.ok scIsComp (fun vs H Q E h => ?_) (fun cdv A outer s H vs Q E hr h => ?_)
  · obtain ⟨n, a, b, ts, ws, rfl, _⟩ := h
    rfl
  · obtain ⟨n, a, b, ts, ws, rfl, hR, hN, hR2, hW, hsub, k⟩ := h
    have nd := scIsComp.nd
    refine ⟨_, pss_cons (ps_set (i := 3) nd rfl (.inl rfl) (pe_c cK hr (by decide) (by rfl) (pa_cons (pv 0) (pa_cons (pv 1) pa_nil))))
      (pss_cons (ps_set (i := 4) nd rfl (.inr rfl) (pe_c cP hr (by decide) (by rfl) (pa_cons (pv 0) (pa_cons (pv 2) pa_nil))))
      (pss_one (ps_ret (pe_and (pe_c cW hr (by decide) (by rfl) (pa_cons (pv 0) (pa_cons (pv 4) pa_nil))) (pe_one (pe_callB (cr_all rfl) (by rfl) zA (by decide +kernel) (pa_cons
        (pe_lc (own := [("three", 5)]) (g := gName 5) (tt := tYes) (te := tOp (rInD K) (tVar 5) (tVar 4)) rfl nd (pi_list (pv 3)) (blkOk_by (N := ["count", "threes", "whole", "own", "told", "three"]) (sc := defScope sIsComp) (by decide +kernel))
          (fun _ _ _ _ _ => pg_name (i := 5) nd rfl (.inl rfl)) (fun _ _ _ _ _ => pts_nil) (fun _ _ _ _ _ => pe_cmpR (op_inD (hu65 hr)) (pv 5) (pv 4) (by rfl))) pa_nil))))))), ?_⟩
    refine ⟨_, rfl, _, rfl, n, a, ts, rfl, hR, hN, fun H1 p s1 hp hT => ?_⟩
    refine ⟨_, rfl, _, rfl, n, b, ws, rfl, hR2.1, hR2.2.1, (hR2.same s1).2.2.1, hR2.2.2.2.1, hR2.2.2.2.2, fun H2 q s2 hq hT2 => ?_⟩
    have eo := sort_id hW.ok (sortT_sorted _)
    have hlen : (sortT (ws.map srt)).length < 64 := by
      have := (sortT_perm (ws.map srt)).length_eq
      rw [List.length_map] at this
      have := hR2.2.2.2.2
      omega
    refine ⟨_, rfl, _, rfl, n, q, sortT (ws.map srt), rfl, raw_of hR.1 hR.2.1 (.inl hT2) hW.ok hlen, by rw [eo]; exact hW, fun H3 s3 => ?_⟩
    refine ⟨true, rfl, ?_⟩
    have hTp := (hT.same s2).same s3
    obtain ⟨xs, hx, hpx⟩ := hTp
    have hT3 := hT2.same s3
    refine ⟨_, rfl, p, rfl, ⟨xs, SqL.of hx⟩, fun D hD => ?_⟩
    refine lc_list (K := K) (a := p) (xs := xs) (fun i H' => Same H3 H' ∧ H' D = some (.lst ((List.replicate i true).map V.bl))) ⟨same_upd hD, upd_same⟩ (fun i H' _ h => SqL.of (h.1 _ _ hx)) ?_ ?_
    · rintro i x H' hi ⟨sm, hD'⟩
      obtain ⟨t, ht, hxt⟩ := paired_at hpx hi
      have hil : i < xs.length := (List.getElem?_eq_some_iff.mp hi).1
      have hxl : xs.length ≤ 100000 := by
        have := Paired.length hpx
        have := (sortT_perm (ts.map srt)).length_eq
        rw [List.length_map] at this
        have := hR.2.2.2.2
        omega
      refine ⟨rfl, ?_⟩
      refine ⟨_, rfl, _, rfl, trD t, (sortT (ws.map srt)).map trD, (hxt.same sm).dp, (hT3.same sm).dp, trD_shaped t, trDs_shaped _, ?_⟩
      rw [any_eqv, decide_eq_true (hsub t (List.mem_of_getElem? ht))]
      refine ⟨_, hD', ?_, same_back sm hD, ?_⟩
      · rw [List.length_map, List.length_replicate]
        exact lt_ln (by omega)
      · rw [upd_same, List.replicate_succ', List.map_append]
        rfl
    · rintro H' ⟨sm, hD'⟩
      refine ⟨D, _, rfl, SqL.of hD', ?_⟩
      have : (List.replicate xs.length true).all id = true := by
        rw [List.all_eq_true]
        intro b hb
        rw [List.eq_of_mem_replicate hb]
        rfl
      rw [this]
      exact k H' (s1.trans (s2.trans (s3.trans sm)))
end
end K30
end

section
set_option Elab.async false
set_option autoImplicit false
set_option linter.all false
set_option maxRecDepth 100000
set_option maxHeartbeats 4000000
namespace K30
open PySem L2
/-! ### the object of a refusal -/
def fsR (n lim : Nat) (d g : Addr) : List (Str × V) := [("count", vI n), ("limit", vI lim), ("held", .ref d), ("pairs", .ref g)]
structure ClsR (K : PySem.W.Frag) (C : Addr) : Prop where
  cl : Cls K C
  n1 : NoAttr K C "count"
  n2 : NoAttr K C "limit"
  n3 : NoAttr K C "held"
  n4 : NoAttr K C "pairs"
structure RfA (C : Addr) (H : Hp) (p d g : Addr) (n lim : Nat) (T : List Tri) (m : Nat) : Prop where
  ins : ∃ dx, H p = some (.ins C dx (fsR n lim d g))
  hld : H d = some (.dT ((hl T).map kv1))
  prs : ∃ xs, H g = some (.lst xs) ∧ xs.length = m
theorem RfA.same {C : Addr} {H H' : Hp} {p d g : Addr} {n lim : Nat} {T : List Tri} {m : Nat} (h : RfA C H p d g n lim T m) (s : Same H H') : RfA C H' p d g n lim T m := by
  obtain ⟨⟨dx, h1⟩, h2, ⟨xs, h3, h4⟩⟩ := h
  exact ⟨⟨dx, s _ _ h1⟩, s _ _ h2, ⟨xs, s _ _ h3, h4⟩⟩
section
variable {P : Program} {w0 : World} {K : PySem.W.Frag} {mg : Str → Option Value} {base : Heap}

/-! ### Refusal.__init__ -/
def spRInit (C : Addr) : Sp := fun vs H Q _ => ∃ (p a dx : Addr) (n lim : Nat) (ts : List Tri), vs = [.ref p, vI n, .ref a, vI lim] ∧ H p = some (.ins C dx []) ∧ Raw H n a ts ∧ (hl (sortT (ts.map srt))).Nodup ∧
  ∀ (H' : Hp) (d g : Addr), But [p] H H' → H d = none → H g = none → RfA C H' p d g n lim (sortT (ts.map srt)) 0 → Q .non H'
theorem scRInit : FnScope ["self", "count", "threes", "limit"] ["self", "count", "threes", "limit"] (defScope sRInit) := ⟨rfl, rfl, rfl, by decide +kernel, rfl, by decide +kernel, by decide +kernel⟩
theorem ok_rinit {f C : Addr} {fd : FuncData} (F : Fun K "__init__" "Refusal.__init__" sRInit f fd) (T : ClsR K C) (cK : Cal P w0 K mg base 3 "kept_threes" spKept []) (cH : Cal P w0 K mg base 2 "held_pairs" spHeld []) :
    FnOk P w0 K mg base CX0 4 f fd ["self", "count", "threes", "limit"] (spRInit C) := by
  refine F.ok scRInit (fun vs H Q E h => ?_) (fun cdv A outer s H vs Q E hr h => ?_)
  · obtain ⟨p, a, dx, n, lim, ts, rfl, _⟩ := h
    rfl
  · obtain ⟨p, a, dx, n, lim, ts, rfl, hp, hR, hN, k⟩ := h
    refine ⟨_, pss_cons (ps_fld (pv 0) (pv 1) rfl) (pss_cons (ps_fld (pv 0) (pv 3) rfl)
      (pss_cons (ps_fld (pv 0) (pe_c cH hr (by decide) (by rfl) (pa_cons (pe_c cK hr (by decide) (by rfl) (pa_cons (pv 1) (pa_cons (pv 2) pa_nil))) pa_nil)) rfl)
      (pss_one (ps_fld (pv 0) (pe_lst pa_nil) rfl)))), ?_⟩
    refine ⟨_, rfl, _, rfl, p, C, dx, _, rfl, hp, T.cl, T.n1, (by decide), ?_⟩
    refine ⟨_, rfl, _, rfl, p, C, dx, _, rfl, upd_same, T.cl, T.n2, (by show 1 < 1000; decide), ?_⟩
    rw [upd_upd]
    generalize hG : upd H p (.ins C dx (putF "limit" (vI lim) (putF "count" (vI n) []))) = G
    have hGp : G p = some (.ins C dx (putF "limit" (vI lim) (putF "count" (vI n) []))) := by rw [← hG]; exact upd_same
    have tG : Tups H G := by rw [← hG]; exact tups_upd hp fun _ z => nomatch z
    have lG : ∀ b xs, H b = some (.lst xs) → G b = some (.lst xs) := by rw [← hG]; exact lists_upd hp fun _ z => nomatch z
    have bG : But [p] H G := by rw [← hG]; exact but_upd List.mem_cons_self
    have nG : ∀ b, G b = none → H b = none := fun b e => by
      rw [← hG] at e
      by_cases hb : b = p
      · rw [hb, upd_same] at e; cases e
      · rw [upd_ne hb] at e; exact e
    refine ⟨_, rfl, _, rfl, n, a, ts, rfl, hR.keep lG tG, hN, fun H1 l s1 hl0 hT => ?_⟩
    refine ⟨l, _, rfl, hT, sorted_len hR.2.2.2.2, fun H3 d s3 hd0 hd => ?_⟩
    have s13 := s1.trans s3
    have hpd : p ≠ d := fun z => by rw [z] at hGp; rw [s1 _ _ hGp] at hd0; cases hd0
    refine ⟨_, rfl, p, C, dx, _, rfl, s13 _ _ hGp, T.cl, T.n3, (by show 2 < 1000; decide), ?_⟩
    generalize hG3 : upd H3 p (.ins C dx (putF "held" (.ref d) (putF "limit" (vI lim) (putF "count" (vI n) [])))) = G3
    have hG3p : G3 p = some (.ins C dx (putF "held" (.ref d) (putF "limit" (vI lim) (putF "count" (vI n) [])))) := by rw [← hG3]; exact upd_same
    have bG3 : But [p] H3 G3 := by rw [← hG3]; exact but_upd List.mem_cons_self
    have hd3 : G3 d = some (.dT ((tally (hl (sortT (ts.map srt)))).map kvN)) := by rw [← hG3, upd_ne hpd.symm]; exact hd
    have nG3 : ∀ b, G3 b = none → H3 b = none := fun b e => by
      rw [← hG3] at e
      by_cases hb : b = p
      · rw [hb, upd_same] at e; cases e
      · rw [upd_ne hb] at e; exact e
    refine ⟨ln, fun g hg0 => ?_⟩
    have s4 := same_upd (o := .lst []) hg0
    have hpg : p ≠ g := fun z => by rw [z, hg0] at hG3p; cases hG3p
    refine ⟨_, rfl, p, C, dx, _, rfl, s4 _ _ hG3p, T.cl, T.n4, (by show 3 < 1000; decide), ?_⟩
    refine k _ d g ?_ (nG _ (s1.free hd0)) (nG _ (s13.free (nG3 _ hg0))) ⟨⟨dx, upd_same⟩, ?_, ⟨[], ?_, rfl⟩⟩
    · exact bG.trans ((But.of s13).trans (bG3.trans ((But.of s4).trans (but_upd List.mem_cons_self))))
    · rw [upd_ne hpd.symm, ← kv_once, ← tally_once hN]
      exact s4 _ _ hd3
    · rw [upd_ne hpg.symm]
      exact upd_same

/-! ### best_pair -/
def spBest (C : Addr) : Sp := fun vs H Q _ => ∃ (p d g : Addr) (n lim : Nat) (T : List Tri) (m : Nat), vs = [.ref p] ∧ RfA C H p d g n lim T m ∧ n ≤ 13 ∧
  (∀ H' : Hp, Same H H' → openOf n (hl T) = [] → Q .non H') ∧ ∀ (H' : Hp) (q : Addr) (pr : Pr), Same H H' → pr ∈ openOf n (hl T) → H' q = some (.tup (prV pr)) → Q (.ref q) H'
theorem scBest : FnScope ["self", "best", "pair", "many"] ["self"] (defScope sBest) := ⟨rfl, rfl, rfl, by decide +kernel, rfl, by decide +kernel, by decide +kernel⟩
theorem ok_best {f C : Addr} {fd : FuncData} (F : Fun K "best_pair" "Refusal.best_pair" sBest f fd) (T : ClsR K C) (cO : Cal P w0 K mg base 2 "open_of" spOpen []) (cT : Cal P w0 K mg base 1 "thirds_of" spThirds []) (zL : mg "len" = none) : FnOk P w0 K mg base CX0 3 f fd ["self"] (spBest C) := by
  refine F.ok scBest (fun vs H Q E h => ?_) (fun cdv A outer s H vs Q E hr h => ?_)
  · obtain ⟨p, d, g, n, lim, Ts, m, rfl, _⟩ := h
    rfl
  · obtain ⟨p, d, g, n, lim, Ts, m, rfl, R, hn, k0, k1⟩ := h
    have nd := scBest.nd
    obtain ⟨dx, hp⟩ := R.ins
    refine ⟨_, pss_cons (ps_set (i := 1) nd rfl (.inl rfl) pe_non)
      (pss_cons (ps_for PassesOwn.never rfl (pi_list (pe_c cO hr (by decide) (by rfl) (pa_cons (pe_fld (pv 0) rfl) (pa_cons (pe_fld (pv 0) rfl) pa_nil)))) (pg_name (i := 2) nd rfl (.inl rfl))
        (pss_cons (ps_set (i := 3) nd rfl (.inl rfl) (pe_callB call_len_seq (by rfl) zL PySem.boot_len (pa_cons (pe_c cT hr (by decide) (by rfl) (pa_cons (pe_fld (pv 0) rfl) (pa_cons (pe_fld (pv 0) rfl) (pa_cons (pv 2) pa_nil)))) pa_nil)))
        (pss_one (ps_if (PW.pt (pw_or (pt_cmpR op_isN (pv 1) pe_non (nomark _)) (pw_or1 (pt_cmpR op_lt (pv 3) (pe_ix ix_tup (pv 1) pe_int (fun _ _ => rfl)) (nomark _)))))
          (pss_one (ps_set (i := 1) nd rfl (.inl rfl) (pe_tup (pa_cons (pv 3) (pa_cons (pv 2) pa_nil))))) pss_nil))))
      (pss_one (ps_ret (pe_ifExp (pt_cmpR op_isN (pv 1) pe_non (nomark _)) pe_non (pe_ix ix_tup (pv 1) pe_int (fun _ _ => rfl)))))), ?_⟩
    refine ⟨_, rfl, p, C, dx, _, _, rfl, hp, T.cl, T.n1, rfl, _, rfl, p, C, dx, _, _, rfl, hp, T.cl, T.n3, rfl, ?_⟩
    refine ⟨n, d, _, hl Ts, rfl, by omega, R.hld, kv1_has _, fun H1 l s1 hl0 hL => ?_⟩
    obtain ⟨xs, hx, hpx⟩ := hL
    refine ⟨l, rfl, ⟨xs, SqL.of hx⟩, for_list (K := K) (a := l) (xs := xs)
      (fun i σ H' => ∃ (v1 : V) (v2 v3 : Option V), σ = [some (.ref p), some v1, v2, v3] ∧ Same H1 H' ∧ ((i = 0 ∧ v1 = .non) ∨ ∃ (bt q : Addr) (c : Nat) (pr : Pr), v1 = .ref bt ∧ H' bt = some (.tup [vI c, .ref q]) ∧ H' q = some (.tup (prV pr)) ∧ pr ∈ openOf n (hl Ts)))
      ⟨.non, none, none, rfl, Same.refl _, .inl ⟨rfl, rfl⟩⟩ (fun i σ H' _ ⟨_, _, _, _, sm, _⟩ => SqL.of (sm _ _ hx)) ?_ ?_⟩
    · rintro i x σ H' hi ⟨v1, v2, v3, rfl, sm, hv⟩
      obtain ⟨pr, hpr, q, rfl, hq⟩ := paired_at hpx hi
      have hm := List.mem_of_getElem? hpr
      have hp' := sm _ _ (s1 _ _ hp)
      refine ⟨_, rfl, p, C, dx, _, _, rfl, hp', T.cl, T.n1, rfl, _, rfl, p, C, dx, _, _, rfl, hp', T.cl, T.n3, rfl, _, rfl, ?_⟩
      refine ⟨n, d, q, _, hl Ts, pr, rfl, by omega, sm _ _ (s1 _ _ R.hld), kv1_has _, sm _ _ hq, fun H2 tl s2 htl hTl => ?_⟩
      refine ⟨tl, _, rfl, .inl (SqL.of hTl), ?_⟩
      have sm2 := sm.trans s2
      have hq2 := sm2 _ _ hq
      have put : ∀ bt, H2 bt = none → ∃ (v1 : V) (v2 v3 : Option V), ([some (.ref p), some (.ref bt), some (.ref q), some (vI ((thirdsOf n (hl Ts) pr).map vI).length)] : St) = [some (.ref p), some v1, v2, v3] ∧ Same H1 (upd H2 bt (.tup [vI ((thirdsOf n (hl Ts) pr).map vI).length, .ref q])) ∧
          ((i + 1 = 0 ∧ v1 = .non) ∨ ∃ (bt' q : Addr) (c : Nat) (pr : Pr), v1 = .ref bt' ∧ (upd H2 bt (.tup [vI ((thirdsOf n (hl Ts) pr).map vI).length, .ref q])) bt' = some (.tup [vI c, .ref q]) ∧ (upd H2 bt (.tup [vI ((thirdsOf n (hl Ts) pr).map vI).length, .ref q])) q = some (.tup (prV pr)) ∧ pr ∈ openOf n (hl Ts)) := fun bt hbt =>
        ⟨_, _, _, rfl, sm2.trans (same_upd hbt), .inr ⟨bt, q, _, pr, rfl, upd_same, same_upd hbt _ _ hq2, hm⟩⟩
      rcases hv with ⟨_, rfl⟩ | ⟨bt, q0, c, pr0, rfl, hbt, hq0, hm0⟩
      · refine ⟨_, rfl, rfl, _, rfl, ?_⟩
        refine ⟨_, rfl, _, rfl, ln, fun bt hbt => ?_⟩
        obtain ⟨a1, a2, a3, a4, a5, a6⟩ := put bt hbt
        refine ⟨.ref bt, some (.ref q), some (vI ((thirdsOf n (hl Ts) pr).map vI).length), rfl, sm2.trans (same_upd hbt), .inr ⟨bt, q, _, pr, rfl, upd_same, same_upd hbt _ _ hq2, hm⟩⟩
      · refine ⟨_, rfl, rfl, _, rfl, ?_⟩
        refine ⟨_, rfl, _, rfl, bt, _, 0, _, rfl, rfl, SqT.of (s2 _ _ hbt), atI_nat (j := 0) rfl, _, _, rfl, rfl, _, rfl, ?_⟩
        refine ite2 (fun _ => ?_) (fun _ => ?_)
        · refine ⟨_, rfl, _, rfl, ln, fun bt2 hbt2 => ?_⟩
          exact ⟨.ref bt2, some (.ref q), some (vI ((thirdsOf n (hl Ts) pr).map vI).length), rfl, sm2.trans (same_upd hbt2), .inr ⟨bt2, q, _, pr, rfl, upd_same, same_upd hbt2 _ _ hq2, hm⟩⟩
        · exact ⟨.ref bt, some (.ref q), _, rfl, sm2, .inr ⟨bt, q0, c, pr0, rfl, s2 _ _ hbt, s2 _ _ hq0, hm0⟩⟩
    · rintro σ H' ⟨v1, v2, v3, rfl, sm, hv⟩
      rcases hv with ⟨h0, rfl⟩ | ⟨bt, q0, c, pr0, rfl, hbt, hq0, hm0⟩
      · refine ⟨_, rfl, rfl, _, rfl, ?_⟩
        refine k0 H' (s1.trans sm) ?_
        have := Paired.length hpx
        exact List.eq_nil_of_length_eq_zero (by omega)
      · refine ⟨_, rfl, rfl, _, rfl, ?_⟩
        refine ⟨_, rfl, bt, _, 1, _, rfl, rfl, SqT.of hbt, atI_nat (j := 1) rfl, ?_⟩
        exact k1 H' q0 pr0 (s1.trans sm) hm0 hq0
end
end K30
end

section
set_option Elab.async false
set_option autoImplicit false
set_option linter.all false
set_option maxRecDepth 100000
set_option maxHeartbeats 4000000
namespace K30
open PySem L2
section
variable {P : Program} {w0 : World} {K : PySem.W.Frag} {mg : Str → Option Value} {base : Heap}

/-! ### refuse, to a depth -/
def Done (n : Nat) (T : List Tri) : Prop := ∃ W, Whole n W ∧ ∀ t ∈ T, t ∈ W
def spRef (C : Addr) (D : Nat) : Sp := fun vs H Q _ => ∃ (p d g : Addr) (n lim : Nat) (T : List Tri) (m : Nat), vs = [.ref p] ∧ RfA C H p d g n lim T m ∧ Sys n T ∧ n ≤ 13 ∧ (openOf n (hl T)).length ≤ 3 * D ∧ m + notes D ≤ lim ∧ lim ≤ 60000 ∧
  ∀ (H' : Hp) (m' : Nat) (b : Bool), But [d, g] H H' → Tups H H' → m' ≤ m + notes D → RfA C H' p d g n lim T m' → (Done n T → b = false) → Q (.bl b) H'
theorem scRef : FnScope ["self", "pair", "third", "three", "part", "closed"] ["self"] (defScope sRefuse) := ⟨rfl, rfl, rfl, by decide +kernel, rfl, by decide +kernel, by decide +kernel⟩
theorem ok_ref {f C : Addr} {fd : FuncData} (F : Fun K "refuse" "Refusal.refuse" sRefuse f fd) (T : ClsR K C) (me : Meth K C "refuse" f) (bR : Binds K fd ["self"] []) (cT : Cal P w0 K mg base 1 "thirds_of" spThirds []) (cP : Cal P w0 K mg base 1 "pairs_of" spPairs [])
    (mB : MCal P w0 K mg base 3 C "best_pair" (spBest C)) (zL : mg "len" = none) (zS : mg "sorted" = none) (zT : mg "tuple" = none) :
    ∀ D : Nat, FnOk P w0 K mg base CX0 (4 + D) f fd ["self"] (spRef C D) := by
  intro D
  have nd := scRef.nd
  have len : ∀ D vs (H : Hp) (Q : VK) (E : XK), spRef C D vs H Q E → vs.length = (["self"] : List Str).length := fun D vs H Q E h => by
    obtain ⟨p, d, g, n, lim, Ts, m, rfl, _⟩ := h
    rfl
  induction D with
  | zero =>
    refine F.ok scRef (len 0) (fun cdv A outer s H vs Q E hr h => ?_)
    obtain ⟨p, d, g, n, lim, Ts, m, rfl, R, Y, hn, ho, hm, hlim, kk⟩ := h
    obtain ⟨dx, hp⟩ := R.ins
    have e0 : openOf n (hl Ts) = [] := List.eq_nil_of_length_eq_zero (by omega)
    refine ⟨_, pss_cons (ps_set (i := 1) nd rfl (.inl rfl) (pe_m0 mB hr (by decide) (pv 0)))
      (pss_cons (ps_if (pt_cmpR op_isN (pv 1) pe_non (nomark _)) (pss_one (ps_ret pe_bl)) pss_nil) pss_never), ?_⟩
    refine ⟨_, rfl, p, dx, _, rfl, hp, rfl, ?_⟩
    refine ⟨p, d, g, n, lim, Ts, m, rfl, R, hn, fun H1 s1 _ => ?_, fun H1 q pr s1 hpr _ => ?_⟩
    · refine ⟨_, rfl, rfl, _, rfl, ?_⟩
      exact kk H1 m false (But.of s1) (Tups.of s1) (by omega) (R.same s1) (fun _ => rfl)
    · rw [e0] at hpr
      exact nomatch hpr
  | succ D ih =>
    have mR : MCal P w0 K mg base (4 + D) C "refuse" (spRef C D) := ⟨f, fd, _, ⟨ih, me⟩, ⟨T.cl, bR⟩⟩
    refine F.ok scRef (len (D + 1)) (fun cdv A outer s H vs Q E hr h => ?_)
    obtain ⟨p, d, g, n, lim, Ts, m, rfl, R, Y, hn, ho, hm, hlim, kk⟩ := h
    obtain ⟨dx, hp⟩ := R.ins
    have h3 : 3 ≤ 4 + D := by omega
    have h1' : 1 ≤ 4 + D := by omega
    have epo : notes (D + 1) = 1 + (3 * D + 2) * notes D := rfl
    refine ⟨_, pss_cons (ps_set (i := 1) nd rfl (.inl rfl) (pe_m0 mB hr h3 (pv 0)))
      (pss_cons (ps_if (pt_cmpR op_isN (pv 1) pe_non (nomark _)) (pss_one (ps_ret pe_bl)) pss_nil)
      (pss_cons (ps_if (pt_cmpR op_eq (pe_callB call_len_seq (by rfl) zL PySem.boot_len (pa_cons (pe_fld (pv 0) rfl) pa_nil)) (pe_fld (pv 0) rfl) (nomark _)) (pss_one ps_never) pss_nil)
      (pss_cons (ps_expr (pe_bm PySem.F.plainAttrs_list PySem.F.slot_list_append PySem.F.type_list_append mt_append (pe_fld (pv 0) rfl) (pa_cons (pv 1) pa_nil)))
      (pss_cons (ps_for PassesOwn.never rfl (pi_list (pe_c cT hr h1' (by rfl) (pa_cons (pe_fld (pv 0) rfl) (pa_cons (pe_fld (pv 0) rfl) (pa_cons (pv 1) pa_nil))))) (pg_name (i := 2) nd rfl (.inl rfl))
        (pss_cons (ps_set (i := 3) nd rfl (.inl rfl) (pe_tupleOf (by rfl) zT (pe_callB cr_sortedTup (by rfl) zS (by decide +kernel) (pa_cons (pe_tup (StX.pa_star (pv 1) (pa_cons (pv 2) pa_nil))) pa_nil))))
        (pss_cons (ps_for PassesOwn.never rfl (pi_list (pe_c cP hr h1' (by rfl) (pa_cons (pv 3) pa_nil))) (pg_name (i := 4) nd rfl (.inl rfl)) (pss_one (ps_dput (hu_of hr) (pe_fld (pv 0) rfl) (pv 4) pe_int rfl)))
        (pss_cons (ps_set (i := 5) nd rfl (.inl rfl) (pe_m0 mR hr (Nat.le_refl _) (pv 0)))
        (pss_cons (ps_for PassesOwn.never rfl (pi_list (pe_c cP hr h1' (by rfl) (pa_cons (pv 3) pa_nil))) (pg_name (i := 4) nd rfl (.inl rfl)) (pss_one (ps_ddelT (hu_of hr) (pe_fld (pv 0) rfl) (pv 4))))
        (pss_one (ps_if (pt_not (pt_val (pv 5))) (pss_one (ps_ret pe_bl)) pss_nil)))))))
      (pss_one (ps_ret pe_bl)))))), ?_⟩
    refine ⟨_, rfl, p, dx, _, rfl, hp, rfl, ?_⟩
    refine ⟨p, d, g, n, lim, Ts, m, rfl, R, hn, fun H1 s1 _ => ?_, fun H1 qp pr s1 hpr hqp => ?_⟩
    · refine ⟨_, rfl, rfl, _, rfl, ?_⟩
      exact kk H1 m false (But.of s1) (Tups.of s1) (by omega) (R.same s1) (fun _ => rfl)
    have h12 : pr.1 < pr.2 := (mem_openOf.mp hpr).1.1
    refine ⟨_, rfl, rfl, _, rfl, ?_⟩
    have R1 := R.same s1
    obtain ⟨gs, hg, hgl⟩ := R1.prs
    have hp1 := s1 _ _ hp
    have hpd : p ≠ d := ne_of hp R.hld (fun z => nomatch z)
    have hpg : p ≠ g := ne_of hp1 hg (fun z => nomatch z)
    have hdg : d ≠ g := ne_of R1.hld hg (fun z => nomatch z)
    have hthn := thirds_le hpr ho
    -- len(self.pairs) == self.limit
    refine ⟨_, rfl, p, C, dx, _, _, rfl, hp1, T.cl, T.n4, rfl, g, _, rfl, .inl (SqL.of hg), _, rfl, p, C, dx, _, _, rfl, hp1, T.cl, T.n2, rfl, rfl, _, rfl, ?_⟩
    rw [decide_eq_false (show ¬ V.int ((gs.length : Nat) : Int) = vI lim from fun z => by have := vI_inj (a := gs.length) (b := lim) z; omega)]
    refine iteF ?_
    -- self.pairs.append(pair)
    refine ⟨_, rfl, p, C, dx, _, _, rfl, hp1, T.cl, T.n4, rfl, .inl ⟨rfl, _, SqL.of hg⟩, _, rfl, g, gs, _, rfl, rfl, hg, lt_ln (by omega), ?_⟩
    generalize hG : upd H1 g (.lst (gs ++ [.ref qp])) = G
    have bG : But [d, g] H1 G := by rw [← hG]; exact but_upd (by simp)
    have tG : Tups H1 G := by rw [← hG]; exact tups_upd hg fun _ z => nomatch z
    have RG : RfA C G p d g n lim Ts (m + 1) := by
      refine ⟨⟨dx, by rw [← hG, upd_ne hpg]; exact hp1⟩, by rw [← hG, upd_ne hdg]; exact R1.hld, ⟨_, by rw [← hG]; exact upd_same, by rw [List.length_append, hgl]; rfl⟩⟩
    obtain ⟨dxG, hpG⟩ := RG.ins
    refine ⟨_, rfl, p, C, dxG, _, _, rfl, hpG, T.cl, T.n1, rfl, _, rfl, p, C, dxG, _, _, rfl, hpG, T.cl, T.n3, rfl, _, rfl, ?_⟩
    refine ⟨n, d, qp, _, hl Ts, pr, rfl, by omega, RG.hld, kv1_has _, tG _ _ hqp, fun H2 tl s2 htl hTl => ?_⟩
    have htd : tl ≠ d := fun z => by rw [z, RG.hld] at htl; cases htl
    have htg : tl ≠ g := fun z => by obtain ⟨_, e, _⟩ := RG.prs; rw [z, e] at htl; cases htl
    have hnot : tl ∉ [d, g] := by simp [htd, htg]
    refine ⟨tl, rfl, ⟨_, SqL.of hTl⟩, for_list (K := K) (a := tl) (xs := (thirdsOf n (hl Ts) pr).map vI)
      (fun i σ H3 => ∃ (v2 v3 v4 v5 : Option V) (m' : Nat), σ = [some (.ref p), some (.ref qp), v2, v3, v4, v5] ∧ But [d, g] H2 H3 ∧ Tups H2 H3 ∧ m' ≤ m + 1 + i * notes D ∧
        (∀ c ∈ (thirdsOf n (hl Ts) pr).take i, ∀ W, Whole n W → (∀ t ∈ Ts, t ∈ W) → tri pr c ∉ W) ∧ RfA C H3 p d g n lim Ts m')
      ⟨none, none, none, none, m + 1, rfl, But.refl _ _, Tups.refl _, by omega, (fun c hc => by rw [List.take_zero] at hc; exact nomatch hc), RG.same s2⟩ (fun i σ H3 _ ⟨_, _, _, _, _, _, b, _⟩ => SqL.of (b _ _ hnot hTl)) ?_ ?_⟩
    · rintro i x σ H3 hi ⟨v2, v3, v4, v5, m', rfl, b3, t3, hm', hno, R3⟩
      rw [List.getElem?_map] at hi
      obtain ⟨c, hc, rfl⟩ := Option.map_eq_some_iff.mp hi
      have hcm : c ∈ thirdsOf n (hl Ts) pr := List.mem_of_getElem? hc
      have hil : i < (thirdsOf n (hl Ts) pr).length := (List.getElem?_eq_some_iff.mp hc).1
      have Yc := sys_put Y hpr hcm
      have hmul : (i + 1) * notes D ≤ (3 * D + 2) * notes D := Nat.mul_le_mul_right _ (by omega)
      have hmul2 : (i + 1) * notes D = i * notes D + notes D := Nat.succ_mul _ _
      have hlenT := sys_len hn Y
      -- three = tuple(sorted((*pair, third)))
      refine ⟨_, rfl, qp, _, rfl, .inl (SqT.of (t3 _ _ (s2 _ _ (tG _ _ hqp)))), _, rfl, ln (by show 3 ≤ 100000; decide), fun t1 ht1 => ?_⟩
      have sA := same_upd (o := .tup (prV pr ++ [vI c])) ht1
      refine tn (sorted_tri (t := (pr.1, pr.2, c)) ⟨t1, rfl, upd_same⟩ fun l1 hl1 => ?_)
      refine .inl ⟨l1, _, rfl, SqL.of upd_same, fun q hq => ?_⟩
      have es : srt (pr.1, pr.2, c) = tri pr c := by
        show tri (op pr.1 pr.2) c = _
        rw [opr_lt h12]
      rw [es] at hq ⊢
      have sB := same_upd (o := .lst (trV (tri pr c))) hl1
      have sC := same_upd (o := .tup (trV (tri pr c))) hq
      have sABC := sA.trans (sB.trans sC)
      have hq3 := upd_same (H := upd (upd H3 t1 (.tup (prV pr ++ [vI c]))) l1 (.lst (trV (tri pr c)))) (a := q) (o := .tup (trV (tri pr c)))
      generalize hG4 : upd (upd (upd H3 t1 (.tup (prV pr ++ [vI c]))) l1 (.lst (trV (tri pr c)))) q (.tup (trV (tri pr c))) = G4 at *
      have R4 := R3.same sABC
      obtain ⟨dx4, hp4⟩ := R4.ins
      obtain ⟨gs4, hg4, hgl4⟩ := R4.prs
      have hN : (hl Ts ++ pairsOf (tri pr c)).Nodup := by rw [← hl_snoc]; exact Yc.nd
      -- the three put in
      refine ⟨_, rfl, q, _, rfl, hq3, fun H5 pl s5 hpl hL => ?_⟩
      obtain ⟨ys, hy, hpy⟩ := hL
      have hpld : pl ≠ d := fun z => by rw [z, R4.hld] at hpl; cases hpl
      refine ⟨pl, rfl, ⟨ys, SqL.of hy⟩, for_list (K := K) (a := pl) (xs := ys)
        (fun j σ H6 => ∃ v4 : Option V, σ = [some (.ref p), some (.ref qp), some (vI c), some (.ref q), v4, v5] ∧ (∀ b o, b ≠ d → H5 b = some o → H6 b = some o) ∧ H6 d = some (.dT ((hl Ts ++ (pairsOf (tri pr c)).take j).map kv1)))
        ⟨_, rfl, fun _ _ _ e => e, by rw [List.take_zero, List.append_nil]; exact s5 _ _ R4.hld⟩ (fun j σ H6 _ ⟨_, _, e, _⟩ => SqL.of (e _ _ hpld hy)) ?_ ?_⟩
      · rintro j y σ H6 hj ⟨w4, rfl, sm, hd6⟩
        obtain ⟨pq, hpj, b, rfl, hb⟩ := paired_at hpy hj
        have hbd : b ≠ d := ne_of hb (s5 _ _ R4.hld) (fun z => nomatch z)
        have hb6 : H6 b = some (.tup ((prK pq).map kV)) := sm _ _ hbd hb
        have hp6 := sm _ _ hpd (s5 _ _ hp4)
        refine ⟨_, rfl, p, C, dx4, _, _, rfl, hp6, T.cl, T.n3, rfl, _, rfl, d, _, rfl, DPut.t hd6 hb6 ?_, ?_⟩
        · rw [List.length_map, List.length_append, hl_len, List.length_take]
          have : (pairsOf (tri pr c)).length = 3 := rfl
          exact lt_ln (by omega)
        · refine ⟨_, rfl, fun c o hc e => ?_, ?_⟩
          · rw [upd_ne hc]; exact sm _ _ hc e
          · have hnew : pq ∉ hl Ts ++ (pairsOf (tri pr c)).take j := by
              have h1 : (hl Ts ++ (pairsOf (tri pr c)).take (j + 1)).Sublist (hl Ts ++ pairsOf (tri pr c)) := (List.Sublist.refl _).append (List.take_sublist _ _)
              have h2 := h1.nodup hN
              rw [take_more hpj, ← List.append_assoc] at h2
              intro z
              exact (List.nodup_append.mp h2).2.2 pq z pq List.mem_cons_self rfl
            rw [upd_same, take_more hpj, ← List.append_assoc, put_new hnew]
      rintro σ H6 ⟨w4, rfl, sm6, hd6⟩
      rw [Paired.length hpy, List.take_length, ← hl_snoc] at hd6
      have t6 : Tups H5 H6 := fun b zs e => sm6 _ _ (ne_of e (s5 _ _ R4.hld) (fun z => nomatch z)) e
      have b6 : But [d, g] H5 H6 := fun b o hb e => sm6 _ _ (fun z => hb (by rw [z]; simp)) e
      have R6 : RfA C H6 p d g n lim (Ts ++ [tri pr c]) m' := ⟨⟨dx4, sm6 _ _ hpd (s5 _ _ hp4)⟩, hd6, ⟨gs4, sm6 _ _ hdg.symm (s5 _ _ hg4), hgl4⟩⟩
      obtain ⟨dx6, hp6⟩ := R6.ins
      -- closed = self.refuse()
      refine ⟨_, rfl, p, dx6, _, rfl, hp6, rfl, ?_⟩
      have ho6 : (openOf n (hl (Ts ++ [tri pr c]))).length ≤ 3 * D := by have := open_put Y hpr hcm; omega
      refine ⟨p, d, g, n, lim, Ts ++ [tri pr c], m', rfl, R6, Yc, hn, ho6, by omega, hlim, fun H7 m7 cb b7 t7 hm7 R7 hcb => ?_⟩
      obtain ⟨dx7, hp7⟩ := R7.ins
      obtain ⟨gs7, hg7, hgl7⟩ := R7.prs
      have hq7 : H7 q = some (.tup (trV (tri pr c))) := t7 _ _ (t6 _ _ (s5 _ _ hq3))
      -- the three taken out
      refine ⟨_, rfl, q, _, rfl, hq7, fun H8 pl8 s8 hpl8 hL8 => ?_⟩
      obtain ⟨ys8, hy8, hpy8⟩ := hL8
      have hpld8 : pl8 ≠ d := fun z => by rw [z, R7.hld] at hpl8; cases hpl8
      refine ⟨pl8, rfl, ⟨ys8, SqL.of hy8⟩, for_list (K := K) (a := pl8) (xs := ys8)
        (fun j σ H9 => ∃ v4 : Option V, σ = [some (.ref p), some (.ref qp), some (vI c), some (.ref q), v4, some (.bl cb)] ∧ (∀ b o, b ≠ d → H8 b = some o → H9 b = some o) ∧ H9 d = some (.dT ((hl Ts ++ (pairsOf (tri pr c)).drop j).map kv1)))
        ⟨_, rfl, fun _ _ _ e => e, by rw [List.drop_zero, ← hl_snoc]; exact s8 _ _ R7.hld⟩ (fun j σ H9 _ ⟨_, _, e, _⟩ => SqL.of (e _ _ hpld8 hy8)) ?_ ?_⟩
      · rintro j y σ H9 hj ⟨w4, rfl, sm, hd9⟩
        obtain ⟨pq, hpj, b, rfl, hb⟩ := paired_at hpy8 hj
        have hbd : b ≠ d := ne_of hb (s8 _ _ R7.hld) (fun z => nomatch z)
        have hb9 : H9 b = some (.tup ((prK pq).map kV)) := sm _ _ hbd hb
        have hp9 := sm _ _ hpd (s8 _ _ hp7)
        have hjl : j < (pairsOf (tri pr c)).length := (List.getElem?_eq_some_iff.mp hpj).1
        have ej : (pairsOf (tri pr c))[j] = pq := (List.getElem?_eq_some_iff.mp hpj).2
        have hdrop : (pairsOf (tri pr c)).drop j = pq :: (pairsOf (tri pr c)).drop (j + 1) := by rw [List.drop_eq_getElem_cons hjl, ej]
        rw [hdrop] at hd9
        have hn2 : (hl Ts ++ pq :: (pairsOf (tri pr c)).drop (j + 1)).Nodup := by
          rw [← hdrop]
          exact ((List.Sublist.refl _).append (List.drop_sublist _ _)).nodup hN
        have hval : (valV ((hl Ts ++ pq :: (pairsOf (tri pr c)).drop (j + 1)).map kv1) (prK pq)).isSome = true := by
          rw [kv1_has, decide_eq_true_eq]
          exact List.mem_append_right _ List.mem_cons_self
        refine ⟨_, rfl, p, C, dx7, _, _, rfl, hp9, T.cl, T.n3, rfl, _, rfl, d, b, _, prK pq, rfl, rfl, hd9, hb9, hval, ?_⟩
        refine ⟨_, rfl, fun c o hc e => ?_, ?_⟩
        · rw [upd_ne hc]; exact sm _ _ hc e
        · rw [upd_same, drop_one hn2]
      rintro σ H9 ⟨w4, rfl, sm9, hd9⟩
      rw [Paired.length hpy8, List.drop_length, List.append_nil] at hd9
      have t9 : Tups H8 H9 := fun b zs e => sm9 _ _ (ne_of e (s8 _ _ R7.hld) (fun z => nomatch z)) e
      have b9 : But [d, g] H8 H9 := fun b o hb e => sm9 _ _ (fun z => hb (by rw [z]; simp)) e
      have R9 : RfA C H9 p d g n lim Ts m7 := ⟨⟨dx7, sm9 _ _ hpd (s8 _ _ hp7)⟩, hd9, ⟨gs7, sm9 _ _ hdg.symm (s8 _ _ hg7), hgl7⟩⟩
      have bAll : But [d, g] H2 H9 := b3.trans ((But.of sABC).trans ((But.of s5).trans (b6.trans (b7.trans ((But.of s8).trans b9)))))
      have tAll : Tups H2 H9 := t3.trans ((Tups.of sABC).trans ((Tups.of s5).trans (t6.trans (t7.trans ((Tups.of s8).trans t9)))))
      have hm9 : m7 ≤ m + 1 + (i + 1) * notes D := by omega
      refine ⟨_, rfl, cb, rfl, ?_⟩
      cases cb with
      | true =>
        refine ⟨_, _, _, _, m7, rfl, bAll, tAll, hm9, fun c' hc' W w hW => ?_, R9⟩
        rw [take_more hc] at hc'
        rcases List.mem_append.mp hc' with hc' | hc'
        · exact hno c' hc' W w hW
        · rw [List.mem_singleton.mp hc']
          intro hin
          exact Bool.noConfusion (hcb ⟨W, w, sub_put hW hin⟩)
      | false =>
        exact kk H9 m7 false ((But.of s1).trans (bG.trans ((But.of s2).trans bAll))) ((Tups.of s1).trans (tG.trans ((Tups.of s2).trans tAll))) (by omega) R9 (fun _ => rfl)
    · rintro σ H3 ⟨v2, v3, v4, v5, m', rfl, b3, t3, hm', hno, R3⟩
      rw [List.length_map] at hm' hno
      rw [List.take_length] at hno
      have hmul : (thirdsOf n (hl Ts) pr).length * notes D ≤ (3 * D + 2) * notes D := Nat.mul_le_mul_right _ (by omega)
      refine kk H3 m' true ((But.of s1).trans (bG.trans ((But.of s2).trans b3))) ((Tups.of s1).trans (tG.trans ((Tups.of s2).trans t3))) (by omega) R3 fun ⟨W, w, hW⟩ => ?_
      obtain ⟨c, hc, hin⟩ := third_in w hW hpr
      exact absurd hin (hno c hc W w hW)

/-! ### none_paper, where there is a completion -/
def spNone : Sp := fun vs H Q _ => ∃ (n : Nat) (a : Addr) (ts : List Tri), vs = [vI n, .ref a, vI 20000] ∧ Raw H n a ts ∧ n ≤ 13 ∧ Sys n (sortT (ts.map srt)) ∧ (openOf n (hl (sortT (ts.map srt)))).length ≤ 15 ∧ Done n (sortT (ts.map srt)) ∧ ∀ H' : Hp, Same H H' → Q .non H'
theorem scNone : FnScope ["count", "threes", "limit", "refusal"] ["count", "threes", "limit"] (defScope sNone) := ⟨rfl, rfl, rfl, by decide +kernel, rfl, by decide +kernel, by decide +kernel⟩
theorem ok_none {f C : Addr} {fd : FuncData} {dvs : List V} {kws : List (Str × V)} (F : FunD K "none_paper" "none_paper" (defArgs sNone) (defBody sNone) (defScope sNone) dvs kws f fd) (cS : Mak P w0 K mg base CX0 4 "Refusal" C (spRInit C)) (mR : MCal P w0 K mg base 9 C "refuse" (spRef C 5)) :
    FnOk P w0 K mg base CX0 10 f fd ["count", "threes", "limit"] spNone := by
  refine F.ok scNone (fun vs H Q E h => ?_) (fun cdv A outer s H vs Q E hr h => ?_)
  · obtain ⟨n, a, ts, rfl, _⟩ := h
    rfl
  · obtain ⟨n, a, ts, rfl, hR, hn, Y, ho, hdone, k⟩ := h
    have nd := scNone.nd
    refine ⟨_, pss_cons (ps_set (i := 3) nd rfl (.inl rfl) (pe_mkE cS hr (by decide) pass0 (by rfl) (pa_cons (pv 0) (pa_cons (pv 1) (pa_cons (pv 2) pa_nil)))))
      (pss_one (ps_ret (pe_ifExp (pt_val (pe_m0 mR hr (by decide) (pv 3))) (pe_fld (pv 3) rfl) pe_non))), ?_⟩
    refine ⟨_, rfl, _, rfl, _, rfl, fun x dx hx hdx hne => ?_⟩
    refine ⟨x, a, dx, n, 20000, ts, rfl, upd_same, raw_made hR hx hdx hne, Y.nd, fun H1 d g b1 hd0 hg0 S => ⟨rfl, ?_⟩⟩
    obtain ⟨dx1, hp1⟩ := S.ins
    refine ⟨_, rfl, x, dx1, _, rfl, hp1, rfl, ?_⟩
    refine ⟨x, d, g, n, 20000, _, 0, rfl, S, Y, hn, ho, by rw [notes5]; decide, by decide, fun H2 m' b b2 t2 _ S2 hb => ?_⟩
    rw [hb hdone]
    refine ⟨false, rfl, ?_⟩
    refine k H2 fun c u e => ?_
    have n1 : c ≠ x := ne_of_none e hx
    have n2 : c ≠ dx := ne_of_none e hdx
    have e0 : upd (upd H dx (.own x)) x (.ins C dx []) c = some u := by rw [upd_ne n1, upd_ne n2]; exact e
    have n3 : c ≠ d := ne_of_none e0 hd0
    have n4 : c ≠ g := ne_of_none e0 hg0
    exact b2 _ _ (by simp [n3, n4]) (b1 _ _ (by simp [n1]) e0)
end
end K30
end

section
set_option Elab.async false
set_option autoImplicit false
set_option linter.all false
set_option maxRecDepth 100000
set_option maxHeartbeats 4000000
namespace K30
open PySem L2
/-- at a stands a list of m drawn numbers -/
def Nums (H : Hp) (a : Addr) (ns : List Nat) : Prop := H a = some (.lst (ns.map vI))
theorem vI_toNat {i : Int} (h : 0 ≤ i) : V.int i = vI i.toNat := by
  unfold vI
  rw [Int.toNat_of_nonneg h]
theorem ite_any {b : Bool} {A B : Prop} (h1 : A) (h2 : B) : if b = true then A else B := by
  cases b with
  | true => exact h1
  | false => exact h2
theorem mod_lt {i : Int} : (i % 1009).toNat < 1009 := by
  have := Int.emod_lt_of_pos i (show (0 : Int) < 1009 by decide)
  have := Int.emod_nonneg i (show (1009 : Int) ≠ 0 by decide)
  omega
section
variable {P : Program} {w0 : World} {K : PySem.W.Frag} {mg : Str → Option Value} {base : Heap}

/-! ### _law_row -/
def spRow : Sp := fun vs H Q _ => ∃ (c : Int) (m : Nat), vs = [.int c, vI m] ∧ m ≤ 1000 ∧ ∀ (H' : Hp) (p : Addr) (ns : List Nat), Same H H' → H p = none → Nums H' p ns → ns.length = m → Q (.ref p) H'
theorem scRow : FnScope ["_law_cell", "_law_many", "_law_row_here", "_law_rest", "_law_mixed", "_law_k"] ["_law_cell", "_law_many"] (defScope sRow) := ⟨rfl, rfl, rfl, by decide +kernel, rfl, by decide +kernel, by decide +kernel⟩
theorem ok_row {f : Addr} {fd : FuncData} (F : Fun K "_law_row" "_law_row" sRow f fd) (zA : mg "abs" = none) (zI : mg "int" = none) (zR : mg "range" = none) : FnOk P w0 K mg base CX0 1 f fd ["_law_cell", "_law_many"] spRow := by
  refine F.ok scRow (fun vs H Q E h => ?_) (fun cdv A outer s H vs Q E hr h => ?_)
  · obtain ⟨c, m, rfl, _⟩ := h
    rfl
  · obtain ⟨c, m, rfl, hm, k⟩ := h
    have nd := scRow.nd
    refine ⟨_, pss_cons (ps_set (i := 2) nd rfl (.inl rfl) (pe_lst pa_nil))
      (pss_cons (ps_set (i := 3) nd rfl (.inl rfl) (pe_callB call_abs (by rfl) zA (by decide +kernel) (pa_cons (pv 0) pa_nil)))
      (pss_cons (ps_set (i := 4) nd rfl (.inl rfl) (pe_op op_mod (pe_callTy call_int1 (by rfl) zI (by decide +kernel) (pa_cons (pe_op op_add (pe_op op_mul (pv 3) pe_int) pe_int) pa_nil)) pe_int))
      (pss_cons (ps_for PassesOwn.never rfl (pi_range1 (by rfl) zR (pa_cons (pv 1) pa_nil)) (pg_name (i := 5) nd rfl (.inl rfl))
        (pss_cons (ps_set (i := 4) nd rfl (.inl rfl) (pe_op op_mod (pe_callTy call_int1 (by rfl) zI (by decide +kernel) (pa_cons (pe_op op_add (pe_op op_mul (pv 4) pe_int) (pe_op op_mul pe_int (pe_op op_add (pv 5) pe_int))) pa_nil)) pe_int))
        (pss_one (ps_if (pt_cmpR op_ge (pe_callB call_abs (by rfl) zA (by decide +kernel) (pa_cons (pv 0) pa_nil)) (pe_op op_pow pe_int pe_int) (nomark _))
          (pss_cons (ps_expr (pe_bm PySem.F.plainAttrs_list PySem.F.slot_list_append PySem.F.type_list_append mt_append (pv 2) (pa_cons (pe_op op_mod (pe_callTy call_int1 (by rfl) zI (by decide +kernel) (pa_cons (pv 3) pa_nil)) pe_int) pa_nil)))
          (pss_one (ps_set (i := 3) nd rfl (.inl rfl) (pe_op op_fdiv (pv 3) pe_int))))
          (pss_one (ps_expr (pe_bm PySem.F.plainAttrs_list PySem.F.slot_list_append PySem.F.type_list_append mt_append (pv 2) (pa_cons (pe_op op_mod (pe_callTy call_int1 (by rfl) zI (by decide +kernel) (pa_cons (pe_op op_fdiv (pv 4) pe_int) pa_nil)) pe_int) pa_nil))))))))
      (pss_one (ps_ret (pv 2)))))), ?_⟩
    refine ⟨ln, fun p hp => ?_⟩
    have s0 := same_upd (o := .lst []) hp
    refine ⟨_, rfl, c, rfl, ?_⟩
    refine ⟨_, rfl, _, _, rfl, rfl, .inr (by decide), _, _, rfl, rfl, .inl ⟨_, rfl, _, _, rfl, rfl, (by decide : (0 : Int) < 2147483647), ?_⟩⟩
    refine ⟨_, rfl, _, rfl, by omega, by omega, ?_⟩
    rw [Int.toNat_natCast]
    refine for_range (fun i σ H' => ∃ (r x : Int) (v5 : Option V) (ns : List Nat), σ = [some (.int c), some (vI m), some (.ref p), some (.int r), some (.int x), v5] ∧ Same H H' ∧ Nums H' p ns ∧ ns.length = i)
      ⟨_, _, none, [], rfl, s0, upd_same, rfl⟩ ?_ ?_
    · rintro i σ H' hi ⟨r, x, v5, ns, rfl, sm, hN, hl⟩
      refine ⟨_, rfl, _, _, rfl, rfl, .inr (by decide), _, rfl, _, _, rfl, rfl, _, _, rfl, rfl, .inl (by decide), _, _, rfl, rfl, .inl ⟨_, rfl, _, _, rfl, rfl, (by decide : (0 : Int) < 2147483629), ?_⟩⟩
      have hlen : (ns.map vI).length ≤ 100000 := by rw [List.length_map]; omega
      have fin : ∀ (y : Int), Same H (upd H' p (.lst (ns.map vI ++ [V.int (y % 1009)]))) ∧ Nums (upd H' p (.lst (ns.map vI ++ [V.int (y % 1009)]))) p (ns ++ [(y % 1009).toNat]) ∧ (ns ++ [(y % 1009).toNat]).length = i + 1 := fun y => by
        refine ⟨same_back sm hp, ?_, by rw [List.length_append, hl]; rfl⟩
        show upd _ _ _ _ = _
        rw [upd_same, List.map_append, vI_toNat (Int.emod_nonneg y (by decide))]
        rfl
      refine ⟨_, rfl, c, rfl, _, _, rfl, rfl, ⟨by decide, by decide, by decide⟩, _, _, rfl, rfl, ?_⟩
      refine ⟨_, rfl, ite_any ?_ ?_⟩
      · refine ⟨_, rfl, .inl ⟨rfl, _, SqL.of hN⟩, _, rfl, .inl ⟨_, rfl, _, _, rfl, rfl, (by decide : (0 : Int) < 1009), p, _, _, rfl, rfl, hN, lt_ln hlen, ?_⟩⟩
        refine ⟨_, rfl, _, _, rfl, rfl, ⟨by decide, by decide⟩, ?_⟩
        obtain ⟨f1, f2, f3⟩ := fin r
        exact ⟨_, _, _, _, rfl, f1, f2, f3⟩
      · refine ⟨_, rfl, .inl ⟨rfl, _, SqL.of hN⟩, _, rfl, _, _, rfl, rfl, ⟨by decide, by decide⟩, .inl ⟨_, rfl, _, _, rfl, rfl, (by decide : (0 : Int) < 1009), p, _, _, rfl, rfl, hN, lt_ln hlen, ?_⟩⟩
        obtain ⟨f1, f2, f3⟩ := fin (((x * 16807 + 271 * ((0 + (i : Int)) + 3)) % 2147483629) / 7)
        exact ⟨_, _, _, _, rfl, f1, f2, f3⟩
    · rintro σ H' ⟨r, x, v5, ns, rfl, sm, hN, hl⟩
      exact ⟨_, rfl, k H' p ns sm hp hN hl⟩

/-! ### _law_numbers -/
theorem cut_ints (zs : List Int) (lo hi : Option Int) : ∃ ys : List Int, cutV (zs.map V.int) lo hi = ys.map V.int := by
  unfold cutV
  exact ⟨_, by rw [← List.map_drop, ← List.map_take]⟩
theorem cut63 (xs : List V) (h : xs.length ≤ 63) : cutV xs none (some 63) = xs := by
  unfold cutV
  have e1 : HT.sIx xs.length 0 none = 0 := rfl
  rw [e1, List.drop_zero, List.take_of_length_le]
  show xs.length ≤ HT.sIx xs.length xs.length (some 63) - 0
  unfold HT.sIx
  simp
  omega
def spNumbers (K : PySem.W.Frag) : Sp := fun vs H Q _ => ∃ (a : Addr) (zs : List Int), vs = [.ref a, vI 60] ∧ SqL K H a (zs.map V.int) ∧ zs.length ≤ 63 ∧ ∀ (H' : Hp) (p : Addr) (ns : List Nat), Same H H' → H p = none → Nums H' p ns → ns.length = 60 → Q (.ref p) H'
theorem scNumbers : FnScope ["_law_script", "_law_many", "_law_cells", "_law_each", "_law_numbers_here", "_law_cell", "_law_number"] ["_law_script", "_law_many"] (defScope sNumbers) := ⟨rfl, rfl, rfl, by decide +kernel, rfl, by decide +kernel, by decide +kernel⟩
theorem ok_numbers {f : Addr} {fd : FuncData} (F : Fun K "_law_numbers" "_law_numbers" sNumbers f fd) (cR : Cal P w0 K mg base 1 "_law_row" spRow []) (zM : mg "max" = none) (zL : mg "len" = none) : FnOk P w0 K mg base CX0 2 f fd ["_law_script", "_law_many"] (spNumbers K) := by
  refine F.ok scNumbers (fun vs H Q E h => ?_) (fun cdv A outer s H vs Q E hr h => ?_)
  · obtain ⟨a, zs, rfl, _⟩ := h
    rfl
  · obtain ⟨a, zs, rfl, hz, hlz, k⟩ := h
    have nd := scNumbers.nd
    refine ⟨_, pss_cons (ps_set (i := 2) nd rfl (.inl rfl) (pe_slice sl_list (pv 0) po_none (po_some pe_int)))
      (pss_cons (ps_set (i := 3) nd rfl (.inl rfl) (pe_op op_add pe_int (pe_op op_fdiv (pv 1) (pe_callB (call_max2 rfl) (by rfl) zM (by decide +kernel) (pa_cons pe_int (pa_cons (pe_callB call_len_seq (by rfl) zL PySem.boot_len (pa_cons (pv 2) pa_nil)) pa_nil))))))
      (pss_cons (ps_set (i := 4) nd rfl (.inl rfl) (pe_lst pa_nil))
      (pss_cons (ps_for PassesOwn.never rfl (pi_list (pv 2)) (pg_name (i := 5) nd rfl (.inl rfl))
        (pss_one (ps_for PassesOwn.never rfl (pi_list (pe_c cR hr (by decide) (by rfl) (pa_cons (pv 5) (pa_cons (pv 3) pa_nil)))) (pg_name (i := 6) nd rfl (.inl rfl))
          (pss_one (ps_expr (pe_bm PySem.F.plainAttrs_list PySem.F.slot_list_append PySem.F.type_list_append mt_append (pv 4) (pa_cons (pv 6) pa_nil)))))))
      (pss_cons (ps_while PassesOwn.never (pt_cmpR op_lt (pe_callB call_len_seq (by rfl) zL PySem.boot_len (pa_cons (pv 4) pa_nil)) (pv 1) (nomark _))
        (pss_one (ps_expr (pe_bm PySem.F.plainAttrs_list PySem.F.slot_list_append PySem.F.type_list_append mt_append (pv 4) (pa_cons pe_int pa_nil)))))
      (pss_one (ps_ret (pe_slice sl_list (pv 4) po_none (po_some (pv 1))))))))), ?_⟩
    refine ⟨_, rfl, _, rfl, a, _, rfl, hz, fun c hc => ?_⟩
    rw [cut63 _ (by rw [List.length_map]; exact hlz)]
    have s1 := same_upd (o := .lst (zs.map V.int)) hc
    refine ⟨_, rfl, _, rfl, c, _, rfl, .inl (SqL.of upd_same), ?_⟩
    rw [List.length_map]
    have hj : ∃ d : Nat, (if ((zs.length : Nat) : Int) > 1 then ((zs.length : Nat) : Int) else 1) = (d : Int) ∧ 1 ≤ d ∧ d ≤ 63 := by
      by_cases c : ((zs.length : Nat) : Int) > 1
      · exact ⟨zs.length, if_pos c, by omega, hlz⟩
      · exact ⟨1, if_neg c, by omega, by omega⟩
    obtain ⟨d, ed, hd1, hd2⟩ := hj
    refine ⟨_, _, rfl, ?_⟩
    rw [ed]
    refine ⟨_, _, rfl, rfl, ⟨(by omega : (0 : Int) < (d : Int)), (by omega : (d : Int) < 1073741824)⟩, _, _, rfl, rfl, ?_⟩
    have he : ∃ e : Nat, 1 + (((60 : Nat) : Int)) / (d : Int) = (e : Int) ∧ e ≤ 61 := by
      refine ⟨1 + 60 / d, ?_, ?_⟩
      · rw [Int.natCast_add, Int.natCast_ediv]
        rfl
      · have := Nat.div_le_self 60 d
        omega
    obtain ⟨e, ee, he⟩ := he
    show tSeq _ _ _ (List.set _ 3 (some (V.int (1 + ((60 : Nat) : Int) / (d : Int))))) _
    rw [ee]
    refine ⟨ln, fun p hp0 => ?_⟩
    have hp : H p = none := s1.free hp0
    have s2 := s1.trans (same_upd (o := .lst []) hp0)
    generalize hG : upd (upd H c (.lst (zs.map V.int))) p (.lst []) = G
    have hpc : c ≠ p := fun z => by rw [← z, upd_same] at hp0; cases hp0
    have hGc : G c = some (.lst (zs.map V.int)) := by rw [← hG, upd_ne hpc]; exact upd_same
    have hGp : G p = some (.lst []) := by rw [← hG]; exact upd_same
    rw [hG] at s2
    have back : ∀ {H' : Hp} {o : HO}, But [p] G H' → But [p] G (upd H' p o) := fun b => b.trans (but_upd List.mem_cons_self)
    have out : ∀ {H' : Hp}, But [p] G H' → Same H H' := fun b x u ex => b _ _ (by simpa using ne_of_none ex hp) (s2 _ _ ex)
    refine ⟨_, rfl, c, rfl, ⟨_, SqL.of hGc⟩, for_list (K := K) (a := c) (xs := zs.map V.int)
      (fun i σ H' => ∃ (v5 v6 : Option V) (ns : List Nat), σ = [some (.ref a), some (vI 60), some (.ref c), some (vI e), some (.ref p), v5, v6] ∧ But [p] G H' ∧ Nums H' p ns ∧ ns.length = i * e)
      ⟨none, none, [], rfl, But.refl _ _, hGp, (Nat.zero_mul _).symm⟩ (fun i σ H' _ ⟨_, _, _, _, b, _⟩ => SqL.of (b _ _ (by simpa using hpc) hGc)) ?_ ?_⟩
    · rintro i x σ H' hi ⟨v5, v6, ns, rfl, b, hN, hl⟩
      rw [List.getElem?_map] at hi
      obtain ⟨z, hzi, rfl⟩ := Option.map_eq_some_iff.mp hi
      have hi63 : i < 63 := by have := (List.getElem?_eq_some_iff.mp hzi).1; omega
      have hie : i * e ≤ 63 * 61 := Nat.mul_le_mul (by omega) he
      refine ⟨_, rfl, _, rfl, z, e, rfl, by omega, fun H2 r ms s3 hr0 hM hml => ?_⟩
      have hrp : r ≠ p := fun z => by rw [z, show H' p = _ from hN] at hr0; cases hr0
      refine ⟨r, rfl, ⟨_, SqL.of hM⟩, for_list (K := K) (a := r) (xs := ms.map vI)
        (fun j σ H3 => ∃ (v6 : Option V) (ns : List Nat), σ = [some (.ref a), some (vI 60), some (.ref c), some (vI e), some (.ref p), some (.int z), v6] ∧ But [p] H2 H3 ∧ Nums H3 p ns ∧ ns.length = i * e + j)
        ⟨_, ns, rfl, But.refl _ _, s3 _ _ hN, by omega⟩ (fun j σ H3 _ ⟨_, _, _, b3, _⟩ => SqL.of (b3 _ _ (by simpa using hrp) hM)) ?_ ?_⟩
      · rintro j y σ H3 hj ⟨w6, ls, rfl, b3, hN3, hl3⟩
        rw [List.getElem?_map] at hj
        obtain ⟨q, hq, rfl⟩ := Option.map_eq_some_iff.mp hj
        have hje : j < 61 := by have := (List.getElem?_eq_some_iff.mp hq).1; omega
        refine ⟨_, rfl, .inl ⟨rfl, _, SqL.of hN3⟩, _, rfl, p, _, _, rfl, rfl, hN3, lt_ln (by rw [List.length_map]; omega), ?_⟩
        refine ⟨_, ls ++ [q], rfl, b3.trans (but_upd List.mem_cons_self), ?_, by rw [List.length_append, hl3]; rfl⟩
        show upd _ _ _ _ = _
        rw [upd_same, List.map_append]
        rfl
      · rintro σ H3 ⟨w6, ls, rfl, b3, hN3, hl3⟩
        rw [List.length_map, hml] at hl3
        exact ⟨_, _, ls, rfl, b.trans ((But.of s3).trans b3), hN3, by rw [hl3, Nat.succ_mul]⟩
    rintro σ H' ⟨v5, v6, ns, rfl, b, hN, hl⟩
    have hlb : ns.length ≤ 3843 := by
      rw [hl, List.length_map]
      exact Nat.mul_le_mul hlz he
    refine while_by (fun σ H' => ∃ (ns : List Nat), σ = [some (.ref a), some (vI 60), some (.ref c), some (vI e), some (.ref p), v5, v6] ∧ But [p] G H' ∧ Nums H' p ns ∧ ns.length ≤ 3843)
      (fun _ H' => match H' p with | some (.lst xs) => 60 - xs.length | _ => 0) ⟨ns, rfl, b, hN, hlb⟩ ?_ ?_
    · rintro σ H' ⟨ls, rfl, b, hN, hlb⟩
      refine ⟨_, rfl, p, _, rfl, .inl (SqL.of hN), _, rfl, _, _, rfl, rfl, _, rfl, ?_⟩
      rw [List.length_map]
      by_cases hlt : ls.length < 60
      · rw [decide_eq_true (show ((ls.length : Nat) : Int) < ((60 : Nat) : Int) by omega)]
        refine iteT ⟨_, rfl, .inl ⟨rfl, _, SqL.of hN⟩, p, _, _, rfl, rfl, hN, lt_ln (by rw [List.length_map]; omega), ?_⟩
        refine ⟨⟨ls ++ [0], rfl, back b, ?_, by rw [List.length_append]; simp; omega⟩, ?_⟩
        · show upd _ _ _ _ = _
          rw [upd_same, List.map_append]
          rfl
        · show (match upd _ _ _ p with | some (.lst xs) => 60 - xs.length | _ => 0) < (match H' p with | some (.lst xs) => 60 - xs.length | _ => 0)
          rw [upd_same, show H' p = _ from hN]
          simp
          omega
      · rw [decide_eq_false (show ¬ ((ls.length : Nat) : Int) < ((60 : Nat) : Int) by omega)]
        refine iteF ⟨_, rfl, _, rfl, _, rfl, p, _, rfl, SqL.of hN, fun q hq => ?_⟩
        have hqH : H q = none := (out b).free hq
        refine k _ q (ls.take 60) ((out b).trans (same_upd hq)) hqH ?_ (by rw [List.length_take]; omega)
        show upd _ _ _ _ = _
        rw [upd_same, List.map_take]
        unfold cutV
        have e1 : HT.sIx (ls.map vI).length 0 none = 0 := rfl
        rw [e1, List.drop_zero]
        have e2 : HT.sIx (ls.map vI).length (ls.map vI).length (some ((60 : Nat) : Int)) = 60 := by
          unfold HT.sIx
          simp
          omega
        rw [e2]
    · rintro σ H' Q Q' hQ ⟨v, e1, h⟩
      exact ⟨v, e1, by
        obtain ⟨p', ys, e2, e3, h⟩ := h
        exact ⟨p', ys, e2, e3, by
          obtain ⟨u, e4, i, j, e5, e6, k, e7, h⟩ := h
          exact ⟨u, e4, i, j, e5, e6, k, e7, hQ _ _ h⟩⟩⟩

/-! ### _law_pick -/
def spPick : Sp := fun vs H Q _ => ∃ (a : Addr) (ns : List Nat) (i m : Nat), vs = [.ref a, vI i, vI m] ∧ Nums H a ns ∧ i < ns.length ∧ 0 < m ∧ ∀ r : Nat, r < m → Q (vI r) H
theorem scPick : FnScope ["_law_numbers_here", "_law_at", "_law_most"] ["_law_numbers_here", "_law_at", "_law_most"] (defScope sPick) := ⟨rfl, rfl, rfl, by decide +kernel, rfl, by decide +kernel, by decide +kernel⟩
theorem ok_pick {f : Addr} {fd : FuncData} (F : Fun K "_law_pick" "_law_pick" sPick f fd) (zI : mg "int" = none) : FnOk P w0 K mg base CX0 1 f fd ["_law_numbers_here", "_law_at", "_law_most"] spPick := by
  refine F.ok scPick (fun vs H Q E h => ?_) (fun cdv A outer s H vs Q E hr h => ?_)
  · obtain ⟨a, ns, i, m, rfl, _⟩ := h
    rfl
  · obtain ⟨a, ns, i, m, rfl, hN, hi, hm, k⟩ := h
    refine ⟨_, pss_one (ps_ret (pe_op op_mod (pe_callTy call_int1 (by rfl) zI (by decide +kernel) (pa_cons (pe_ix ix_list (pv 0) (pv 1) (fun _ _ => rfl)) pa_nil)) (pv 2))), ?_⟩
    refine ⟨_, rfl, _, rfl, a, _, i, vI ns[i], rfl, rfl, SqL.of hN, atI_nat (by rw [List.getElem?_map, List.getElem?_eq_getElem hi]; rfl), .inl ⟨_, rfl, _, rfl, _, _, rfl, rfl, (by omega : (0 : Int) < (m : Int)), ?_⟩⟩
    exact k (ns[i] % m) (Nat.mod_lt _ hm)
end
end K30
end

section
set_option Elab.async false
set_option autoImplicit false
set_option linter.all false
set_option maxRecDepth 100000
set_option maxHeartbeats 4000000
namespace K30
open PySem L2
theorem paired_append {α β : Type} {F : α → β → Prop} {l2 : List α} {m2 : List β} (h2 : Paired F l2 m2) : ∀ {l : List α} {m : List β}, Paired F l m → Paired F (l ++ l2) (m ++ m2)
  | _, _, .nil => h2
  | _, _, .cons r t => .cons r (paired_append h2 t)
/-! ### threes written out -/
def tTri (t : Tri) : TE := fun _ H Q => ∀ (H' : Hp) (v : V), Same H H' → IsTr H' v t → Q v H'
def tTrs (ts : List Tri) : TA := fun _ H Q => ∀ (H' : Hp) (xs : List V), Same H H' → Paired (IsTr H') xs ts → Q xs H'
def tTrT (ts : List Tri) : TE := fun _ H Q => ∀ (H' : Hp) (p : Addr), Same H H' → TrT H' p ts → Q (.ref p) H'
section
variable {X : Cx} {e : Expr} {es : List Expr} {ts : List Tri} {t : Tri}
theorem pe_tri {a b c : Nat} {x1 : _} {i j k pos p1 p2 p3} : PE X (.Tuple [.Constant (.int (a : Int)) i p1, .Constant (.int (b : Int)) j p2, .Constant (.int (c : Int)) k p3] x1 pos) (tTri (a, b, c)) := by
  have h : PE X (.Tuple [.Constant (.int (a : Int)) i p1, .Constant (.int (b : Int)) j p2, .Constant (.int (c : Int)) k p3] x1 pos) (tTup (tCons (tC (.int a)) (tCons (tC (.int b)) (tCons (tC (.int c)) tNil)))) := pe_tup (pa_cons pe_int (pa_cons pe_int (pa_cons pe_int pa_nil)))
  refine ⟨fun pins s σ H Q I q => h.run pins s σ H Q I ?_⟩
  exact ⟨ln (by show 3 ≤ 100000; decide), fun p hp => q _ _ (same_upd hp) ⟨p, rfl, upd_same⟩⟩
theorem pa_trs0 : PA X [] (tTrs []) := ⟨fun pos pins s σ H Q I q => pa_nil.run pos pins s σ H Q I (q H [] (fun _ _ z => z) .nil)⟩
theorem pa_trs (he : PE X e (tTri t)) (hr : PA X es (tTrs ts)) (hs : starEach (e :: es) X.env = (false, eval e X.env) :: starEach es X.env := by rfl) : PA X (e :: es) (tTrs (t :: ts)) := by
  refine ⟨fun pos pins s σ H Q I q => (pa_cons he hr hs).run pos pins s σ H Q I ?_⟩
  intro H1 v s1 r1 H2 xs s2 r2
  exact q H2 (v :: xs) (s1.trans s2) (.cons (r1.same s2) r2)
theorem pe_trs {x1 pos} (h : PA X es (tTrs ts)) (hl : ts.length ≤ 1000) : PE X (.Tuple es x1 pos) (tTrT ts) := by
  refine ⟨fun pins s σ H Q I q => (pe_tup h).run pins s σ H Q I ?_⟩
  intro H1 xs s1 r1
  refine ⟨ln (by rw [Paired.length r1]; omega), fun p hp => q _ p (s1.trans (same_upd hp)) ⟨xs, upd_same, trs_tups r1 (Tups.of (same_upd hp))⟩⟩
end
section
variable {P : Program} {w0 : World} {K : PySem.W.Frag} {mg : Str → Option Value} {base : Heap}

/-! ### _law_listed -/
/-- a count and its threes -/
def Lst (H : Hp) (p : Addr) (n : Nat) (ts : List Tri) : Prop := ∃ q, H p = some (.tup [vI n, .ref q]) ∧ TrT H q ts
theorem Lst.same {H H' : Hp} {p : Addr} {n : Nat} {ts : List Tri} (h : Lst H p n ts) (s : Same H H') : Lst H' p n ts := let ⟨q, e, t⟩ := h; ⟨q, s _ _ e, t.same s⟩
def spListed : Sp := fun vs H Q _ => (vs = [vI 1] ∧ ∀ (H' : Hp) (p : Addr), Same H H' → Lst H' p 7 base7 → Q (.ref p) H') ∨ (vs = [vI 2] ∧ ∀ (H' : Hp) (p : Addr), Same H H' → Lst H' p 9 base9 → Q (.ref p) H')
theorem scListed : FnScope ["_law_number", "_law_rows"] ["_law_number"] (defScope sListed) := ⟨rfl, rfl, rfl, by decide +kernel, rfl, by decide +kernel, by decide +kernel⟩
theorem ok_listed {f : Addr} {fd : FuncData} (F : Fun K "_law_listed" "_law_listed" sListed f fd) (zI : mg "int" = none) : FnOk P w0 K mg base CX0 1 f fd ["_law_number"] spListed := by
  refine F.ok scListed (fun vs H Q E h => ?_) (fun cdv A outer s H vs Q E hr h => ?_)
  · rcases h with ⟨rfl, _⟩ | ⟨rfl, _⟩ <;> rfl
  · have nd := scListed.nd
    refine ⟨_, pss_cons (ps_if (pt_cmpR op_eq (pe_op op_mod (pe_callTy call_int1 (by rfl) zI (by decide +kernel) (pa_cons (pv 0) pa_nil)) pe_int) pe_int (nomark _)) (pss_one ps_never) pss_nil)
      (pss_cons (ps_if (pt_cmpR op_eq (pe_op op_mod (pe_callTy call_int1 (by rfl) zI (by decide +kernel) (pa_cons (pv 0) pa_nil)) pe_int) pe_int (nomark _))
        (pss_one (ps_ret (pe_tup (pa_cons pe_int (pa_cons (pe_trs (ts := base7) (pa_trs (pe_tri (a := 0) (b := 1) (c := 2)) (pa_trs (pe_tri (a := 0) (b := 3) (c := 4)) (pa_trs (pe_tri (a := 0) (b := 5) (c := 6)) (pa_trs (pe_tri (a := 1) (b := 3) (c := 5)) (pa_trs (pe_tri (a := 1) (b := 4) (c := 6)) (pa_trs (pe_tri (a := 2) (b := 3) (c := 6)) (pa_trs (pe_tri (a := 2) (b := 4) (c := 5)) pa_trs0))))))) (by decide)) pa_nil))))) pss_nil)
      (pss_cons (ps_set (i := 1) nd rfl (.inl rfl) (pe_trs (ts := [(0, 1, 2), (3, 4, 5), (6, 7, 8), (0, 3, 6), (1, 4, 7), (2, 5, 8), (0, 4, 8), (1, 5, 6), (2, 3, 7), (0, 5, 7)]) (pa_trs (pe_tri (a := 0) (b := 1) (c := 2)) (pa_trs (pe_tri (a := 3) (b := 4) (c := 5)) (pa_trs (pe_tri (a := 6) (b := 7) (c := 8)) (pa_trs (pe_tri (a := 0) (b := 3) (c := 6)) (pa_trs (pe_tri (a := 1) (b := 4) (c := 7)) (pa_trs (pe_tri (a := 2) (b := 5) (c := 8)) (pa_trs (pe_tri (a := 0) (b := 4) (c := 8)) (pa_trs (pe_tri (a := 1) (b := 5) (c := 6)) (pa_trs (pe_tri (a := 2) (b := 3) (c := 7)) (pa_trs (pe_tri (a := 0) (b := 5) (c := 7)) pa_trs0)))))))))) (by decide)))
      (pss_one (ps_ret (pe_tup (pa_cons pe_int (pa_cons (pe_op op_catT (pv 1) (pe_trs (ts := [(1, 3, 8), (2, 4, 6)]) (pa_trs (pe_tri (a := 1) (b := 3) (c := 8)) (pa_trs (pe_tri (a := 2) (b := 4) (c := 6)) pa_trs0)) (by decide))) pa_nil))))))), ?_⟩
    rcases h with ⟨rfl, k⟩ | ⟨rfl, k⟩
    · refine ⟨_, rfl, .inl ⟨_, rfl, _, _, rfl, rfl, (by decide : (0 : Int) < 3), rfl, _, rfl, ?_⟩⟩
      refine iteF ⟨_, rfl, .inl ⟨_, rfl, _, _, rfl, rfl, (by decide : (0 : Int) < 3), rfl, _, rfl, ?_⟩⟩
      refine iteT fun H1 q s1 hq => ⟨ln (by show 2 ≤ 100000; decide), fun p hp => ?_⟩
      exact k _ p (s1.trans (same_upd hp)) ⟨q, upd_same, hq.same (same_upd hp)⟩
    · refine ⟨_, rfl, .inl ⟨_, rfl, _, _, rfl, rfl, (by decide : (0 : Int) < 3), rfl, _, rfl, ?_⟩⟩
      refine iteF ⟨_, rfl, .inl ⟨_, rfl, _, _, rfl, rfl, (by decide : (0 : Int) < 3), rfl, _, rfl, ?_⟩⟩
      refine iteF fun H1 q s1 hq => ⟨_, rfl, fun H2 q2 s2 hq2 => ?_⟩
      obtain ⟨xs, hx, px⟩ := hq.same s2
      obtain ⟨ys, hy, py⟩ := hq2
      have l1 := Paired.length px
      have l2 := Paired.length py
      refine ⟨q, q2, xs, ys, rfl, rfl, SqT.of hx, SqT.of hy, (fun z => by rw [z] at l1; cases l1), ln (by rw [l1, l2]; decide), (fun z => by rw [z] at l2; cases l2), fun _ r hr0 => ?_⟩
      have s3 := same_upd (o := .tup (xs ++ ys)) hr0
      refine ⟨ln (by show 2 ≤ 100000; decide), fun p hp => ?_⟩
      have s4 := same_upd (o := .tup [vI 9, .ref r]) hp
      exact k _ p (((s1.trans s2).trans s3).trans s4) ⟨r, upd_same, TrT.same ⟨_, upd_same, paired_append (trs_tups py (Tups.of s3)) (trs_tups px (Tups.of s3))⟩ s4⟩
end
end K30
end

section
set_option Elab.async false
set_option autoImplicit false
set_option linter.all false
set_option maxRecDepth 100000
set_option maxHeartbeats 4000000
namespace K30
open PySem L2
theorem tr3 {a b c : Int} {t : Tri} (h1 : a = (t.1 : Int)) (h2 : b = (t.2.1 : Int)) (h3 : c = (t.2.2 : Int)) : [V.int a, V.int b, V.int c] = trV t := by
  rw [h1, h2, h3]
  rfl
/-- a three made anew and put at the end -/
theorem trl_snoc {H H' : Hp} {p q : Addr} {xs ys : List V} {acc : List Tri} {t : Tri} (sm : Same H H') (hp : H p = none) (hL : H' p = some (.lst xs)) (hX : Paired (IsTr H') xs acc) (hq : H' q = none) (e : ys = trV t) :
    Same H (upd (upd H' q (.tup ys)) p (.lst (xs ++ [.ref q]))) ∧ TrL (upd (upd H' q (.tup ys)) p (.lst (xs ++ [.ref q]))) p (acc ++ [t]) := by
  have s1 := same_upd (o := .tup ys) hq
  have hL1 := s1 _ _ hL
  have t2 := tups_upd (o' := .lst (xs ++ [.ref q])) hL1 fun _ z => nomatch z
  refine ⟨same_back (sm.trans s1) hp, _, upd_same, paired_snoc (trs_tups hX ((Tups.of s1).trans t2)) ⟨q, rfl, t2 _ _ ?_⟩⟩
  rw [← e]
  exact upd_same
theorem take3 (l : List Tri) (x y z : Tri) : l ++ [x, y, z].take 3 = l ++ [x, y, z] := rfl
def sk1 (x : Nat) : List Tri := [(12, 2 + x, x + 4), (12, 2 + x + 4, x + 8), (12, 2 + x + 8, x)]
def skh (x : Nat) : List Tri := if x < 2 then (x, x + 4, x + 8) :: sk1 x else []
theorem skx_eq (x : Nat) : skx x = skh x ++ (List.range x).flatMap fun y => sk3 x y (skz x y) := rfl
theorem range_snoc {f : Nat → List Tri} (i : Nat) : (List.range (i + 1)).flatMap f = (List.range i).flatMap f ++ f i := by
  rw [List.range_succ, List.flatMap_append]
  simp
theorem fm_len {f : Nat → List Tri} {m : Nat} (h : ∀ i, (f i).length ≤ m) : ∀ i, ((List.range i).flatMap f).length ≤ i * m
  | 0 => by simp
  | i + 1 => by
    rw [range_snoc, List.length_append, Nat.succ_mul]
    have := fm_len h i
    have := h i
    omega
theorem skx_len (x : Nat) (hx : x < 4) : (skx x).length ≤ 13 := by
  rw [skx_eq, List.length_append]
  have h1 := fm_len (f := fun y => sk3 x y (skz x y)) (m := 3) (fun _ => Nat.le_refl _) x
  have h2 : (skh x).length ≤ 4 := by
    unfold skh
    split
    · exact Nat.le_refl _
    · exact Nat.zero_le _
  omega
theorem sk1_at (x : Nat) : ∀ i, i < 3 → ∃ t, (sk1 x)[i]? = some t ∧ t.1 = 12 ∧ t.2.1 = 2 + x + 4 * i ∧ t.2.2 = x + 4 * ((i + 1) % 3)
  | 0, _ => ⟨_, rfl, rfl, rfl, rfl⟩
  | 1, _ => ⟨_, rfl, rfl, rfl, rfl⟩
  | 2, _ => ⟨_, rfl, rfl, rfl, rfl⟩
  | i + 3, h => absurd h (by omega)
theorem sk3_at (x y z : Nat) : ∀ i, i < 3 → ∃ t, (sk3 x y z)[i]? = some t ∧ t.1 = x + 4 * i ∧ t.2.1 = y + 4 * i ∧ t.2.2 = z + 4 * ((i + 1) % 3)
  | 0, _ => ⟨_, rfl, rfl, rfl, rfl⟩
  | 1, _ => ⟨_, rfl, rfl, rfl, rfl⟩
  | 2, _ => ⟨_, rfl, rfl, rfl, rfl⟩
  | i + 3, h => absurd h (by omega)
theorem seq_by {A R : TS} {D : Ends} {σ : St} {H : Hp} (Inv : St → Hp → Prop) (h1 : ∀ N : St → Hp → Prop, (∀ σ' H', Inv σ' H' → N σ' H') → A { D with nx := N } σ H) (h2 : ∀ σ' H', Inv σ' H' → R D σ' H') : tSeq A R D σ H := h1 _ h2
section
variable {P : Program} {w0 : World} {K : PySem.W.Frag} {mg : Str → Option Value} {base : Heap}

/-! ### _law_threes -/
def spThrees : Sp := fun vs H Q _ => ∃ a : Addr, vs = [.ref a] ∧ H a = some (.tup [.str "skolem", vI 13]) ∧ ∀ (H' : Hp) (p : Addr), Same H H' → H p = none → TrL H' p raw13 → Q (.ref p) H'
theorem scThrees : FnScope ["_law_tree", "_law_n", "_law_found", "_law_m", "_law_t", "_law_x", "_law_y", "_law_z", "_law_i", "_law_s"] ["_law_tree"] (defScope sThrees) := ⟨rfl, rfl, rfl, by decide +kernel, rfl, by decide +kernel, by decide +kernel⟩
theorem ok_threes {f : Addr} {fd : FuncData} (F : Fun K "_law_threes" "_law_threes" sThrees f fd) (zI : mg "int" = none) (zR : mg "range" = none) : FnOk P w0 K mg base CX0 1 f fd ["_law_tree"] spThrees := by
  refine F.ok scThrees (fun vs H Q E h => ?_) (fun cdv A outer s H vs Q E hr h => ?_)
  · obtain ⟨a, rfl, _⟩ := h
    rfl
  · obtain ⟨a, rfl, ha, k⟩ := h
    have nd := scThrees.nd
    refine ⟨_, pss_cons (ps_set (i := 1) nd rfl (.inl rfl) (pe_ix ix_tup (pv 0) pe_int (fun _ _ => rfl)))
      (pss_cons (ps_set (i := 2) nd rfl (.inl rfl) (pe_lst pa_nil))
      (pss_cons (ps_if (pt_cmpR op_eq (pe_ix ix_tup (pv 0) pe_int (fun _ _ => rfl)) pe_str (nomark _)) (pss_never) pss_nil)
      (pss_cons (ps_set (i := 3) nd rfl (.inl rfl) (pe_callTy call_int1 (by rfl) zI (by decide +kernel) (pa_cons (pe_op op_fdiv (pe_op op_sub (pv 1) pe_int) pe_int) pa_nil)))
      (pss_cons (ps_set (i := 4) nd rfl (.inl rfl) (pe_callTy call_int1 (by rfl) zI (by decide +kernel) (pa_cons (pe_op op_fdiv (pv 3) pe_int) pa_nil)))
      (pss_cons (ps_for PassesOwn.never rfl (pi_range1 (by rfl) zR (pa_cons (pv 3) pa_nil)) (pg_name (i := 5) nd rfl (.inl rfl))
        (pss_cons (ps_if (pt_cmpR op_lt (pv 5) (pv 4) (nomark _))
          (pss_cons (ps_expr (pe_bm PySem.F.plainAttrs_list PySem.F.slot_list_append PySem.F.type_list_append mt_append (pv 2) (pa_cons (pe_tup (pa_cons (pv 5) (pa_cons (pe_op op_add (pv 5) (pv 3)) (pa_cons (pe_op op_add (pv 5) (pe_op op_mul pe_int (pv 3))) pa_nil)))) pa_nil)))
          (pss_one (ps_for PassesOwn.never rfl (pi_range1 (by rfl) zR (pa_cons pe_int pa_nil)) (pg_name (i := 8) nd rfl (.inl rfl))
            (pss_one (ps_expr (pe_bm PySem.F.plainAttrs_list PySem.F.slot_list_append PySem.F.type_list_append mt_append (pv 2) (pa_cons (pe_tup (pa_cons (pe_op op_sub (pv 1) pe_int) (pa_cons (pe_op op_add (pe_op op_add (pv 4) (pv 5)) (pe_op op_mul (pv 3) (pv 8)))
              (pa_cons (pe_op op_add (pv 5) (pe_op op_mul (pv 3) (pe_op op_mod (pe_callTy call_int1 (by rfl) zI (by decide +kernel) (pa_cons (pe_op op_add (pv 8) pe_int) pa_nil)) pe_int))) pa_nil)))) pa_nil))))))) pss_nil)
        (pss_one (ps_for PassesOwn.never rfl (pi_range1 (by rfl) zR (pa_cons (pv 5) pa_nil)) (pg_name (i := 6) nd rfl (.inl rfl))
          (pss_cons (ps_set (i := 9) nd rfl (.inl rfl) (pe_op op_mod (pe_callTy call_int1 (by rfl) zI (by decide +kernel) (pa_cons (pe_op op_add (pv 5) (pv 6)) pa_nil)) (pv 3)))
          (pss_cons (ps_set (i := 7) nd rfl (.inl rfl) (pe_ifExp (pt_cmpR op_eq (pe_op op_mod (pv 9) pe_int) pe_int (nomark _)) (pe_callTy call_int1 (by rfl) zI (by decide +kernel) (pa_cons (pe_op op_fdiv (pv 9) pe_int) pa_nil)) (pe_op op_add (pv 4) (pe_callTy call_int1 (by rfl) zI (by decide +kernel) (pa_cons (pe_op op_fdiv (pv 9) pe_int) pa_nil)))))
          (pss_one (ps_for PassesOwn.never rfl (pi_range1 (by rfl) zR (pa_cons pe_int pa_nil)) (pg_name (i := 8) nd rfl (.inl rfl))
            (pss_one (ps_expr (pe_bm PySem.F.plainAttrs_list PySem.F.slot_list_append PySem.F.type_list_append mt_append (pv 2) (pa_cons (pe_tup (pa_cons (pe_op op_add (pv 5) (pe_op op_mul (pv 3) (pv 8))) (pa_cons (pe_op op_add (pv 6) (pe_op op_mul (pv 3) (pv 8)))
              (pa_cons (pe_op op_add (pv 7) (pe_op op_mul (pv 3) (pe_op op_mod (pe_callTy call_int1 (by rfl) zI (by decide +kernel) (pa_cons (pe_op op_add (pv 8) pe_int) pa_nil)) pe_int))) pa_nil)))) pa_nil))))))))))))
      (pss_one (ps_ret (pv 2)))))))), ?_⟩
    refine ⟨_, rfl, a, _, _, _, rfl, rfl, SqT.of ha, atI_nat (j := 1) rfl, ?_⟩
    refine ⟨ln, fun p hp => ?_⟩
    have s0 := same_upd (o := .lst []) hp
    refine ⟨_, rfl, a, _, _, _, rfl, rfl, SqT.of (s0 _ _ ha), atI_nat (j := 0) rfl, rfl, _, rfl, ?_⟩
    rw [decide_eq_false (show ¬ V.str "skolem" = V.str "bose" from fun z => by injection z with z; exact absurd z (by decide +kernel))]
    refine iteF ⟨_, rfl, _, _, rfl, rfl, _, _, rfl, rfl, ⟨by decide, by decide⟩, .inl ⟨_, rfl, ?_⟩⟩
    refine ⟨_, rfl, _, _, rfl, rfl, ⟨by decide, by decide⟩, .inl ⟨_, rfl, ?_⟩⟩
    refine ⟨_, rfl, _, rfl, (by decide : -(2 ^ 62 : Int) ≤ 4), (by decide : (4 : Int) < 2 ^ 62), ?_⟩
    refine for_range (n := 4) (fun i σ H' => ∃ (v5 v6 v7 v8 v9 : Option V), σ = [some (.ref a), some (vI 13), some (.ref p), some (vI 4), some (vI 2), v5, v6, v7, v8, v9] ∧ Same H H' ∧ TrL H' p ((List.range i).flatMap skx))
      ⟨none, none, none, none, none, rfl, s0, [], upd_same, .nil⟩ ?_ ?_
    · rintro x σ H1 hx ⟨v5, v6, v7, v8, v9, rfl, sm, hT⟩
      have hlA : ((List.range x).flatMap skx).length ≤ 52 := by
        have : ∀ i ≤ 4, ((List.range i).flatMap skx).length ≤ 52 := by decide +kernel
        exact this x (by omega)
      refine seq_by (Inv := fun σ' H' => ∃ v8 : Option V, σ' = [some (.ref a), some (vI 13), some (.ref p), some (vI 4), some (vI 2), some (vI x), v6, v7, v8, v9] ∧ Same H H' ∧ TrL H' p ((List.range x).flatMap skx ++ skh x)) ?_ ?_
      · intro N hN
        refine ⟨_, rfl, _, rfl, _, _, rfl, rfl, _, rfl, ?_⟩
        have fix : ∀ (v8 : Option V) (H' : Hp) (l : List Tri), Same H H' → TrL H' p l → l = (List.range x).flatMap skx ++ skh x → N [some (.ref a), some (vI 13), some (.ref p), some (vI 4), some (vI 2), some (.int (0 + (x : Int))), v6, v7, v8, v9] H' := fun v8 H' l s1 h1 e => by
          refine hN _ _ ⟨v8, ?_, s1, by rw [← e]; exact h1⟩
          rw [Int.zero_add]
          rfl
        by_cases hx2 : x < 2
        · rw [decide_eq_true (show (0 : Int) + (x : Int) < ((2 : Nat) : Int) by omega)]
          obtain ⟨xs, hL, hX⟩ := hT
          have hxl := Paired.length hX
          refine iteT ⟨_, rfl, .inl ⟨rfl, _, SqL.of hL⟩, _, rfl, _, rfl, _, rfl, _, _, rfl, rfl, _, rfl, _, rfl, _, _, rfl, rfl, .inl (by decide), _, _, rfl, rfl, ln (by show 3 ≤ 100000; decide), fun q hq => ⟨p, xs, _, rfl, rfl, (same_upd hq) _ _ hL, lt_ln (by omega), ?_⟩⟩
          obtain ⟨sm1, hT1⟩ := trl_snoc (t := (x, x + 4, x + 8)) sm hp hL hX hq (tr3 (a := 0 + (x : Int)) (b := 0 + (x : Int) + ((4 : Nat) : Int)) (c := 0 + (x : Int) + 2 * ((4 : Nat) : Int)) (by simp) (by simp) (by simp))
          refine ⟨_, rfl, (by decide), (by decide), for_range (n := 3) (fun i σ H' => ∃ v8 : Option V, σ = [some (.ref a), some (vI 13), some (.ref p), some (vI 4), some (vI 2), some (.int (0 + (x : Int))), v6, v7, v8, v9] ∧ Same H H' ∧ TrL H' p ((List.range x).flatMap skx ++ [(x, x + 4, x + 8)] ++ (sk1 x).take i))
            ⟨v8, rfl, sm1, by rw [List.take_zero, List.append_nil]; exact hT1⟩ ?_ ?_⟩
          · rintro i σ H' hi ⟨w8, rfl, sm', xs', hL', hX'⟩
            obtain ⟨t, ht, e1, e2, e3⟩ := sk1_at x i hi
            have hxl' := Paired.length hX'
            rw [List.length_append, List.length_append, List.length_take] at hxl'
            have h1 : [((x, x + 4, x + 8) : Tri)].length = 1 := rfl
            refine ⟨_, rfl, .inl ⟨rfl, _, SqL.of hL'⟩, _, rfl, _, _, rfl, rfl, _, rfl, _, rfl, _, _, rfl, rfl, _, rfl, _, rfl, _, _, rfl, rfl, .inl (by decide), _, _, rfl, rfl, _, rfl, _, rfl, _, rfl, _, _, rfl, rfl, .inl ⟨_, rfl, _, _, rfl, rfl, (by decide : (0 : Int) < 3), _, _, rfl, rfl, .inl (by decide), _, _, rfl, rfl, ln (by show 3 ≤ 100000; decide),
              fun q hq => ⟨p, xs', _, rfl, rfl, (same_upd hq) _ _ hL', lt_ln (by omega), ?_⟩⟩⟩
            obtain ⟨sm2, hT2⟩ := trl_snoc (t := t) sm' hp hL' hX' hq (tr3 (a := ((13 : Nat) : Int) - 1) (b := ((2 : Nat) : Int) + (0 + (x : Int)) + ((4 : Nat) : Int) * (0 + (i : Int))) (c := 0 + (x : Int) + ((4 : Nat) : Int) * ((0 + (i : Int) + 1) % 3)) (by rw [e1]; rfl) (by rw [e2]; simp) (by rw [e3]; simp))
            refine ⟨_, rfl, sm2, ?_⟩
            rw [take_more ht, ← List.append_assoc]
            exact hT2
          · rintro σ H' ⟨w8, rfl, sm', hT'⟩
            refine fix w8 H' _ sm' hT' ?_
            unfold skh
            rw [if_pos hx2]
            simp [sk1]
        · rw [decide_eq_false (show ¬ (0 : Int) + (x : Int) < ((2 : Nat) : Int) by omega)]
          refine iteF (fix v8 H1 _ sm hT ?_)
          unfold skh
          rw [if_neg hx2, List.append_nil]
      · rintro σ' H2 ⟨v8, rfl, sm2, hT2⟩
        refine ⟨_, rfl, _, rfl, (by omega), (by omega), ?_⟩
        rw [Int.toNat_natCast]
        have hskh : (skh x).length ≤ 4 := by
          unfold skh
          split
          · exact Nat.le_refl _
          · exact Nat.zero_le _
        refine for_range (fun y σ H' => ∃ (v6 v7 v8 v9 : Option V), σ = [some (.ref a), some (vI 13), some (.ref p), some (vI 4), some (vI 2), some (vI x), v6, v7, v8, v9] ∧ Same H H' ∧ TrL H' p ((List.range x).flatMap skx ++ skh x ++ (List.range y).flatMap fun y => sk3 x y (skz x y)))
          ⟨v6, v7, v8, v9, rfl, sm2, by rw [List.range_zero, List.flatMap_nil, List.append_nil]; exact hT2⟩ ?_ ?_
        · rintro y σ H3 hy ⟨w6, w7, w8, w9, rfl, sm3, hT3⟩
          have hyl := fm_len (f := fun y => sk3 x y (skz x y)) (m := 3) (fun _ => Nat.le_refl _) y
          have es : ((x : Int) + (0 + (y : Int))) % ((4 : Nat) : Int) = (((x + y) % 4 : Nat) : Int) := by
            rw [Int.zero_add, ← Int.natCast_add, ← Int.natCast_emod]
          refine seq_by (Inv := fun σ' H' => H' = H3 ∧ σ' = [some (.ref a), some (vI 13), some (.ref p), some (vI 4), some (vI 2), some (vI x), some (vI y), w7, w8, some (vI ((x + y) % 4))]) ?_ ?_
          · intro N hN
            refine ⟨_, rfl, _, rfl, _, _, rfl, rfl, .inl ⟨_, rfl, _, rfl, _, _, rfl, rfl, (by decide : (0 : Int) < ((4 : Nat) : Int)), hN _ _ ⟨rfl, ?_⟩⟩⟩
            show [some (.ref a), some (vI 13), some (.ref p), some (vI 4), some (vI 2), some (vI x), some (V.int (0 + (y : Int))), w7, w8, some (V.int (((x : Int) + (0 + (y : Int))) % ((4 : Nat) : Int)))] = _
            rw [es, Int.zero_add]
            rfl
          rintro σ' H' ⟨rfl, rfl⟩
          refine seq_by (Inv := fun σ' H3 => H3 = H' ∧ σ' = [some (.ref a), some (vI 13), some (.ref p), some (vI 4), some (vI 2), some (vI x), some (vI y), some (vI (skz x y)), w8, some (vI ((x + y) % 4))]) ?_ ?_
          · intro N hN
            have fix : ∀ z : Int, z = (skz x y : Int) → N [some (.ref a), some (vI 13), some (.ref p), some (vI 4), some (vI 2), some (vI x), some (vI y), some (.int z), w8, some (vI ((x + y) % 4))] H' := fun z e => by
              refine hN _ _ ⟨rfl, ?_⟩
              rw [e]
              rfl
            refine ⟨_, rfl, _, _, rfl, rfl, (by decide : (0 : Int) < 2), rfl, _, rfl, ?_⟩
            by_cases hz : (x + y) % 4 % 2 = 0
            · rw [decide_eq_true (show V.int ((((x + y) % 4 : Nat) : Int) % 2) = V.int 0 by congr 1; omega)]
              refine iteT ⟨_, rfl, _, _, rfl, rfl, ⟨by decide, by decide⟩, .inl ⟨_, rfl, fix _ ?_⟩⟩
              unfold skz
              rw [if_pos hz]
              rfl
            · rw [decide_eq_false (show ¬ V.int ((((x + y) % 4 : Nat) : Int) % 2) = V.int 0 by intro z; injection z with z; omega)]
              refine iteF ⟨_, rfl, _, rfl, _, _, rfl, rfl, ⟨by decide, by decide⟩, .inl ⟨_, rfl, _, _, rfl, rfl, fix _ ?_⟩⟩
              unfold skz
              rw [if_neg hz]
              rfl
          · rintro σ' H3 ⟨rfl, rfl⟩
            refine ⟨_, rfl, (by decide), (by decide), for_range (n := 3) (fun i σ H4 => ∃ v8 : Option V, σ = [some (.ref a), some (vI 13), some (.ref p), some (vI 4), some (vI 2), some (vI x), some (vI y), some (vI (skz x y)), v8, some (vI ((x + y) % 4))] ∧ Same H H4 ∧ TrL H4 p ((List.range x).flatMap skx ++ skh x ++ ((List.range y).flatMap fun y => sk3 x y (skz x y)) ++ (sk3 x y (skz x y)).take i))
              ⟨w8, rfl, sm3, by rw [List.take_zero, List.append_nil]; exact hT3⟩ ?_ ?_⟩
            · rintro i σ H4 hi ⟨u8, rfl, sm', xs', hL', hX'⟩
              obtain ⟨t, ht, e1, e2, e3⟩ := sk3_at x y (skz x y) i hi
              have hxl' := Paired.length hX'
              rw [List.length_append, List.length_append, List.length_append, List.length_take] at hxl'
              refine ⟨_, rfl, .inl ⟨rfl, _, SqL.of hL'⟩, _, rfl, _, rfl, _, rfl, _, _, rfl, rfl, .inl (by decide), _, _, rfl, rfl, _, rfl, _, rfl, _, rfl, _, _, rfl, rfl, .inl (by decide), _, _, rfl, rfl, _, rfl, _, rfl, _, rfl, _, _, rfl, rfl, .inl ⟨_, rfl, _, _, rfl, rfl, (by decide : (0 : Int) < 3), _, _, rfl, rfl, .inl (by decide), _, _, rfl, rfl, ln (by show 3 ≤ 100000; decide),
                fun q hq => ⟨p, xs', _, rfl, rfl, (same_upd hq) _ _ hL', lt_ln (by omega), ?_⟩⟩⟩
              obtain ⟨sm2, hT2⟩ := trl_snoc (t := t) sm' hp hL' hX' hq (tr3 (a := (x : Int) + ((4 : Nat) : Int) * (0 + (i : Int))) (b := (y : Int) + ((4 : Nat) : Int) * (0 + (i : Int))) (c := (skz x y : Int) + ((4 : Nat) : Int) * ((0 + (i : Int) + 1) % 3)) (by rw [e1]; simp) (by rw [e2]; simp) (by rw [e3]; simp))
              refine ⟨_, rfl, sm2, ?_⟩
              rw [take_more ht, ← List.append_assoc]
              exact hT2
            · rintro σ H4 ⟨u8, rfl, sm', hT'⟩
              refine ⟨_, _, _, _, rfl, sm', ?_⟩
              rw [range_snoc, ← List.append_assoc]
              exact hT'
        · rintro σ H3 ⟨w6, w7, w8, w9, rfl, sm3, hT3⟩
          refine ⟨_, _, _, _, _, rfl, sm3, ?_⟩
          rw [range_snoc, skx_eq, ← List.append_assoc]
          exact hT3
    · rintro σ H1 ⟨v5, v6, v7, v8, v9, rfl, sm, hT⟩
      exact ⟨_, rfl, k H1 p sm hp hT⟩
end
end K30
end

section
set_option Elab.async false
set_option autoImplicit false
set_option linter.all false
set_option maxRecDepth 100000
set_option maxHeartbeats 4000000
namespace K30
open PySem L2
theorem tri_sorted {t : Tri} {ns : List Int} (h1 : ns.Perm (trI t)) (h2 : ns.Pairwise (· ≤ ·)) : ns.map V.int = trV (srt t) := by
  have hN : ∃ ms : List Nat, ns = ms.map Int.ofNat := by
    have : ∀ l : List Int, (∀ x ∈ l, 0 ≤ x) → ∃ ms : List Nat, l = ms.map Int.ofNat := by
      intro l
      induction l with
      | nil => exact fun _ => ⟨[], rfl⟩
      | cons x l ih =>
        intro hx
        obtain ⟨ms, e⟩ := ih fun y hy => hx y (List.mem_cons_of_mem _ hy)
        obtain ⟨m, hm⟩ := Int.eq_ofNat_of_zero_le (hx x List.mem_cons_self)
        exact ⟨m :: ms, by rw [e, hm]; rfl⟩
    refine this ns fun x hx => ?_
    have := h1.mem_iff.mp hx
    unfold trI at this
    simp only [List.mem_cons, List.not_mem_nil, or_false] at this
    rcases this with rfl | rfl | rfl <;> omega
  obtain ⟨ms, rfl⟩ := hN
  have p1 : (ms.map Int.ofNat).Perm ((triL t).map Int.ofNat) := h1
  have p2 : ms.Perm (triL t) := by
    have := p1.map Int.toNat
    rw [List.map_map, List.map_map] at this
    have e : ∀ l : List Nat, l.map (Int.toNat ∘ Int.ofNat) = l := fun l => by
      refine (List.map_congr_left fun x _ => ?_).trans (List.map_id l)
      exact Int.toNat_natCast x
    rw [e, e] at this
    exact this
  have s2 : ms.Pairwise (· ≤ ·) := by
    rw [List.pairwise_map] at h2
    exact h2.imp fun {a b} h => Int.ofNat_le.mp h
  rw [srt_unique p2 s2]
  rfl
/-- sorted(l), l a list of three points -/
theorem sorted_triL {K : PySem.W.Frag} {H : Hp} {a : Addr} {t : Tri} {Q : VK} (h : H a = some (.lst (trV t))) (q : ∀ p : Addr, H p = none → Q (.ref p) (upd H p (.lst (trV (srt t))))) : rSorted K [.ref a] H Q := by
  refine ⟨a, trI t, rfl, SqL.of (by rw [trI_V]; exact h), by show 3 < 64; decide, fun ns p h1 h2 h3 => ?_⟩
  rw [tri_sorted h1 h2]
  exact q p h3
theorem dif_low {n : Nat} {t : Tri} (h : dif n t) (hn : n ≤ 60) : low t := by
  obtain ⟨_, _, _, h1, h2, h3⟩ := h
  exact ⟨by omega, by omega, by omega⟩
theorem ok_low {n : Nat} {t : Tri} (h : okT n t) (hn : n ≤ 60) : low t := by
  obtain ⟨h1, h2, h3⟩ := h
  exact ⟨by omega, by omega, by omega⟩
theorem ren_at {N : List Nat} {n : Nat} {t : Tri} (h : dif n t) : ∀ {j : Nat} {y : V}, (trV t)[j]? = some y → ∃ x, y = vI x ∧ x < n ∧ (trV (ren N t))[j]? = some (vI (nm N x))
  | 0, _, e => ⟨t.1, (Option.some.inj e).symm, h.2.2.2.1, rfl⟩
  | 1, _, e => ⟨t.2.1, (Option.some.inj e).symm, h.2.2.2.2.1, rfl⟩
  | 2, _, e => ⟨t.2.2, (Option.some.inj e).symm, h.2.2.2.2.2, rfl⟩
  | j + 3, _, e => nomatch e
theorem rgV_nat (n : Nat) : rgV 0 (n : Int) = (List.range n).map vI := by
  unfold rgV
  rw [Int.sub_zero, Int.toNat_natCast]
  refine List.map_congr_left fun i _ => ?_
  rw [Int.zero_add]
  rfl
theorem vI_get {N : List Nat} {i x : Nat} (h : N[i]? = some x) : (N.map vI)[i]? = some (vI x) := by
  rw [List.getElem?_map, h]
  rfl
theorem ixN_nat {n i : Nat} (h : i < n) : ixN n (i : Int) = some i := by
  unfold ixN
  rw [if_pos (Int.natCast_nonneg i), Int.toNat_natCast, if_pos (by omega)]
section
variable {P : Program} {w0 : World} {K : PySem.W.Frag} {mg : Str → Option Value} {base : Heap}

/-! ### _law_renamed -/
def spRenamed : Sp := fun vs H Q _ => ∃ (l a : Addr) (at' n : Nat) (B : List Tri) (ns : List Nat), vs = [.ref l, .ref a, vI at'] ∧ Lst H l n B ∧ 1 ≤ n ∧ n ≤ 13 ∧ Nums H a ns ∧ at' + n ≤ ns.length ∧ ns.length ≤ 1000 ∧ (∀ t ∈ B, dif n t) ∧ B.length < 64 ∧
  ∀ (H' : Hp) (p : Addr) (N : List Nat), Same H H' → Names n N → Lst H' p n (sortT (B.map fun t => srt (ren N t))) → Q (.ref p) H'
theorem scRenamed : FnScope ["_law_listed_here", "_law_numbers_here", "_law_at", "_law_count", "_law_threes_here", "_law_names", "_law_k", "_law_j", "_law_three", "_law_point"] ["_law_listed_here", "_law_numbers_here", "_law_at"] (defScope sRenamed) := ⟨rfl, rfl, rfl, by decide +kernel, rfl, by decide +kernel, by decide +kernel⟩
theorem ok_renamed {f : Addr} {fd : FuncData} (F : Fun K "_law_renamed" "_law_renamed" sRenamed f fd) (zI : mg "int" = none) (zR : mg "range" = none) (zL : mg "list" = none) (zS : mg "sorted" = none) (zT : mg "tuple" = none) : FnOk P w0 K mg base CX0 1 f fd ["_law_listed_here", "_law_numbers_here", "_law_at"] spRenamed := by
  refine F.ok scRenamed (fun vs H Q E h => ?_) (fun cdv A outer s H vs Q E hr h => ?_)
  · obtain ⟨l, a, at', n, B, ns, rfl, _⟩ := h
    rfl
  · obtain ⟨l, a, at', n, B, ns, rfl, ⟨q, hl, hB⟩, hn1, hn, hN, hat, hnl, hd, hBl, k⟩ := h
    have nd := scRenamed.nd
    refine ⟨_, pss_cons (ps_asg (pv 0) (pg_tup rfl (pgs_cons (pg_name (i := 3) nd rfl (.inl rfl)) (pgs_cons (pg_name (i := 4) nd rfl (.inl rfl)) pgs_nil))))
      (pss_cons (ps_set (i := 5) nd rfl (.inr rfl) (pe_listRg rfl (by rfl) zL (prg_1 (by rfl) zR (pv 3))))
      (pss_cons (ps_for PassesOwn.never rfl (pi_range3 (by rfl) zR (pa_cons (pe_op op_sub (pv 3) pe_int) (pa_cons pe_int (pa_cons (pe_un un_neg pe_int) pa_nil)))) (pg_name (i := 6) nd rfl (.inl rfl))
        (pss_cons (ps_set (i := 7) nd rfl (.inl rfl) (pe_op op_mod (pe_callTy call_int1 (by rfl) zI (by decide +kernel) (pa_cons (pe_ix ix_list (pv 1) (pe_op op_add (pv 2) (pv 6)) (fun _ _ => rfl)) pa_nil)) (pe_op op_add (pv 6) pe_int)))
        (pss_one (ps_asg (pe_tup (pa_cons (pe_ix ix_list (pv 5) (pv 7) (fun _ _ => rfl)) (pa_cons (pe_ix ix_list (pv 5) (pv 6) (fun _ _ => rfl)) pa_nil)))
          (pg_tup rfl (pgs_cons (pg_sub (pv 5) (pv 6) set_list) (pgs_cons (pg_sub (pv 5) (pv 7) set_list) pgs_nil)))))))
      (pss_one (ps_ret (pe_tup (pa_cons (pv 3) (pa_cons (pe_tupleOf (by rfl) zT (pe_callB (cr_sortT (d := 3) (B := 64) (by decide)) (by rfl) zS (by decide +kernel) (pa_cons
        (pe_lc (own := [("_law_three", 8)]) (g := gName 8) (tt := tYes) (te := tThen (tCB (rSorted K) (tCons (tLc (iTup K (tVar 8)) (gName 9) tYes (tOp (rIxL K) (tVar 5) (tVar 9)) [9]) tNil)) (kTup K)) rfl nd (pi_tup (pv 4)) (blkOk_by (N := ["_law_listed_here", "_law_numbers_here", "_law_at", "_law_count", "_law_threes_here", "_law_names", "_law_k", "_law_j", "_law_three", "_law_point"]) (sc := defScope sRenamed) (by decide +kernel))
          (fun _ _ _ _ _ => pg_name (i := 8) nd rfl (.inl rfl)) (fun _ _ _ _ _ => pts_nil)
          (fun _ _ _ _ _ => pe_tupleOf (by rfl) zT (pe_callB cr_sorted (by rfl) zS (by decide +kernel) (pa_cons
            (pe_lc (own := [("_law_point", 9)]) (g := gName 9) (tt := tYes) (te := tOp (rIxL K) (tVar 5) (tVar 9)) rfl nd (pi_tup (pv 8)) (blkOk_by (by rfl)) (fun _ _ _ _ _ => pg_name (i := 9) nd rfl (.inl rfl)) (fun _ _ _ _ _ => pts_nil)
              (fun _ _ _ _ _ => pe_ix ix_list (pv 5) (pv 9) (fun _ _ => rfl))) pa_nil)))) pa_nil))) pa_nil))))))), ?_⟩
    refine ⟨_, rfl, l, _, rfl, SqT.of hl, rfl, _, _, rfl, _, _, rfl, rfl, ?_⟩
    refine ⟨_, rfl, _, rfl, RgOk.of_le (by omega) (by omega) (by omega) (by omega), fun p hp => ?_⟩
    rw [rgV_nat]
    have s0 := same_upd (o := .lst ((List.range n).map vI)) hp
    refine ⟨_, rfl, _, _, rfl, rfl, _, rfl, _, _, _, _, rfl, RgC.neg (by omega) (by omega) (by omega) (by omega), ?_⟩
    refine for_rangeC (fun i σ H' => ∃ (v6 v7 : Option V) (N : List Nat), σ = [some (.ref l), some (.ref a), some (vI at'), some (vI n), some (.ref q), some (.ref p), v6, v7, none, none] ∧ Same H H' ∧ Nums H' p N ∧ Names n N)
      ⟨none, none, _, rfl, s0, upd_same, names_start n⟩ ?_ ?_
    · rintro i σ H1 hi ⟨v6, v7, N, rfl, sm, hp1, hNN⟩
      obtain ⟨kk, hkk, hk1, hkn⟩ : ∃ kk : Nat, (n : Int) - 1 + (i : Int) * -1 = (kk : Int) ∧ 1 ≤ kk ∧ kk < n := ⟨n - 1 - i, by omega, by omega, by omega⟩
      rw [hkk]
      have hax : at' + kk < ns.length := by omega
      refine ⟨_, rfl, _, rfl, _, rfl, _, _, rfl, rfl, a, _, _, vI ns[at' + kk], rfl, rfl, SqL.of (sm _ _ hN), atI_nat (j := at' + kk) (vI_get (List.getElem?_eq_getElem hax)), .inl ⟨_, rfl, _, rfl, _, _, rfl, rfl, _, _, rfl, rfl, (by omega : (0 : Int) < (kk : Int) + 1), ?_⟩⟩
      obtain ⟨j, hj, hjk⟩ : ∃ j : Nat, ((ns[at' + kk] : Nat) : Int) % ((kk : Int) + 1) = (j : Int) ∧ j < n := by
        refine ⟨ns[at' + kk] % (kk + 1), by rw [Int.natCast_emod]; rfl, ?_⟩
        have := Nat.mod_lt ns[at' + kk] (show 0 < kk + 1 by omega)
        omega
      have len : N.length = n := hNN.len
      refine ⟨_, rfl, _, rfl, p, _, _, vI (nm N j), rfl, rfl, SqL.of hp1, (by show atI _ (((ns[at' + kk] : Nat) : Int) % ((kk : Int) + 1)) = _; rw [hj]; exact atI_nat (vI_get (hNN.get hjk))),
        _, rfl, _, rfl, p, _, _, vI (nm N kk), rfl, rfl, SqL.of hp1, atI_nat (vI_get (hNN.get hkn)), ln (by show 2 ≤ 100000; decide), fun t ht => ?_⟩
      have s1 := same_upd (o := .tup [vI (nm N j), vI (nm N kk)]) ht
      refine ⟨t, _, rfl, SqT.of upd_same, rfl, _, _, rfl, _, rfl, _, rfl, p, _, _, kk, rfl, rfl, s1 _ _ hp1, ixN_nat (by rw [List.length_map, len]; exact hkn), _, _, rfl, _, rfl, _, rfl, p, _, _, j, rfl, rfl, upd_same,
        (by show ixN _ (((ns[at' + kk] : Nat) : Int) % ((kk : Int) + 1)) = _; rw [hj]; exact ixN_nat (by rw [List.length_set, List.length_map, len]; exact hjk)), rfl, ?_⟩
      refine ⟨_, _, (N.set kk (nm N j)).set j (nm N kk), rfl, same_back (same_back (sm.trans s1) hp) hp, ?_, names_swap hNN hkn hjk⟩
      show upd _ _ _ _ = _
      rw [upd_same, List.map_set, List.map_set]
    · rintro σ H1 ⟨v6, v7, N, rfl, sm, hp1, hNN⟩
      obtain ⟨bs, hq, hbs⟩ := hB.same sm
      have lbs := Paired.length hbs
      refine ⟨_, rfl, _, rfl, q, rfl, ⟨_, SqT.of hq⟩, fun D hD => ?_⟩
      have hpD : p ≠ D := ne_of_none hp1 hD
      refine any_it (walk_tup (K := K) (a := q) (xs := bs)) (fun i H' => Same H1 H' ∧ TrL H' D ((B.take i).map fun t => srt (ren N t))) ⟨same_upd hD, [], upd_same, .nil⟩ (fun i H' _ h => SqT.of (h.1 _ _ hq)) ?_ ?_
      · rintro i x H2 H2' hi ⟨sm2, ys, hy, hpy⟩ ⟨rfl, hx⟩
        obtain ⟨t, hti, hxt⟩ := paired_at hbs hx
        obtain ⟨b, rfl, hb⟩ := hxt.same sm2
        refine ⟨rfl, _, rfl, b, rfl, ⟨_, SqT.of hb⟩, fun D2 hD2 => ?_⟩
        have hdt := hd t (List.mem_of_getElem? hti)
        refine any_it (walk_tup (K := K) (a := b) (xs := trV t)) (fun j H' => Same H2' H' ∧ H' D2 = some (.lst ((trV (ren N t)).take j))) ⟨same_upd hD2, upd_same⟩ (fun j H' _ h => SqT.of (h.1 _ _ hb)) ?_ ?_
        · rintro j y H3 H3' hj ⟨sm3, hy3⟩ ⟨rfl, hyj⟩
          obtain ⟨x, rfl, hxn, hxr⟩ := ren_at (N := N) hdt hyj
          refine ⟨rfl, _, rfl, _, rfl, p, _, _, vI (nm N x), rfl, rfl, SqL.of (sm3 _ _ (sm2 _ _ hp1)), atI_nat (vI_get (hNN.get hxn)), _, hy3, ?_, same_back sm3 hD2, ?_⟩
          · exact lt_ln (Nat.le_trans (by rw [List.length_take]; exact Nat.min_le_right _ _) (by show 3 ≤ 100000; decide))
          · rw [upd_same, take_more hxr]
        · rintro H3 ⟨sm3, hy3⟩
          rw [show (trV (ren N t)).take (trV t).length = trV (ren N t) from rfl] at hy3
          refine tn (sorted_triL hy3 fun r hr0 => .inl ⟨r, _, rfl, SqL.of upd_same, fun u hu => ?_⟩)
          have s4 := same_upd (o := .lst (trV (srt (ren N t)))) hr0
          have s5 := same_upd (o := .tup (trV (srt (ren N t)))) hu
          have s25 := sm3.trans (s4.trans s5)
          have hl1 := Paired.length hpy
          rw [List.length_map, List.length_take] at hl1
          have hB2 := List.length_take_le i B
          refine ⟨ys, s25 _ _ hy, lt_ln (by omega), same_back (sm2.trans s25) hD, _, upd_same, ?_⟩
          have tp := (Tups.of s25).trans (tups_upd (o' := .lst (ys ++ [.ref u])) (s25 _ _ hy) fun _ z => nomatch z)
          rw [take_more hti, List.map_append]
          refine paired_snoc (trs_tups hpy tp) ⟨u, rfl, ?_⟩
          exact tups_upd (s25 _ _ hy) (fun _ z => nomatch z) _ _ upd_same
      · rintro H2 ⟨sm2, hT⟩
        rw [lbs, List.take_length] at hT
        refine tn (sorted_trs hT (by rw [List.length_map]; exact hBl) (fun t ht => ?_) fun r xs hr0 hxs => .inl ⟨r, xs, rfl, SqL.of upd_same, fun u hu => ⟨ln (by show 2 ≤ 100000; decide), fun w hw => ?_⟩⟩)
        · obtain ⟨t', ht', rfl⟩ := List.mem_map.mp ht
          exact ok_low (srt_dif (ren_dif hNN (hd t' ht'))) (by omega)
        · have s3 := same_upd (o := .lst xs) hr0
          have s4 := same_upd (o := .tup xs) hu
          have s5 := same_upd (o := .tup [vI n, .ref u]) hw
          refine k _ w N (sm.trans (sm2.trans (s3.trans (s4.trans s5)))) hNN ⟨u, upd_same, _, s5 _ _ upd_same, trs_tups hxs (Tups.of (s3.trans (s4.trans s5)))⟩
end
end K30
end

section
set_option Elab.async false
set_option autoImplicit false
set_option linter.all false
set_option maxRecDepth 100000
set_option maxHeartbeats 4000000
namespace L2
open PySem PySem.Spec PyProof.Rows
/-! ### f(a) .. in a try, f with defaults -/
def tCallSd (sp : Sp) (dvs : List V) (E : St → XK) (t : TA) : TE := fun σ H Q => t σ H fun vs H1 => sp (vs ++ dvs) H1 Q (E σ)
section
variable {X : Cx} {CX : CXT} {k : Nat} {f : Addr} {fd : FuncData} {ps : List Str} {sp : Sp} {dvs : List V} {ds : List Value} {E : St → XK} {x : Str} {p pos : Pos} {e : Expr} {es : List Expr} {t : TA}
theorem run_fnSd {pins : List (Addr × Obj)} {σ : St} {H : Hp} {s : Shared} {Q : VK} {us : List Value} {vs : List V} (F : FnOk X.prog X.w X.K X.mg X.base CX k f fd ps sp) (hr : Room k X.A) (hb : Binds X.K fd ps ds) (hd : Vals dvs ds) (hx : PassesAt CX X σ (E σ))
    (I : Inv X pins σ H s) (r : Vals vs us) (h : sp (vs ++ dvs) H Q (E σ)) : wpAny (model X.prog X.w) X.A (call (.ref f) us) (EP X pins σ Q) X.xe s := by
  have r2 : Vals (vs ++ dvs) (us ++ ds) := r.append hd
  have hl : (us ++ ds).length = ps.length := by rw [← r2.length]; exact F.len _ _ _ _ h
  refine wpAny_call (codeAny_mono (F.run X.A X.stack s H ⟨us, []⟩ (us ++ ds) (vs ++ dvs) Q (E σ) hr I.env0 (hb s us I.kIn hl) r2 h) fun r s' hq => ?_)
  cases r with
  | error e => exact hx pins H s e s' I hq
  | ok fl =>
    cases fl with
    | ret u => exact I.after hq
    | next => exact False.elim hq
    | brk => exact False.elim hq
    | cont => exact False.elim hq
theorem pe_callSd (F : FnOk X.prog X.w X.K X.mg X.base CX k f fd ps sp) (hr : Room k X.A) (hg : Gl X x) (hm : X.mg x = some (.ref f)) (hk : PySem.W.keepIn X.K (.ref f) = true) (hb : Binds X.K fd ps ds) (hd : Vals dvs ds) (hx : ∀ σ, PassesAt CX X σ (E σ))
    (ha : PA X (e :: es) t) (hdb : (x == ("__debug__" : Str)) = false := by decide) (he : starEach (e :: es) X.env = (false, eval e X.env) :: starEach es X.env := by rfl) (hpl : (backTo pos (starEach es X.env)).any (·.1) = false := by rfl) :
    PE X (.Call (.Name x p) (e :: es) [] pos) (tCallSd sp dvs E t) := by
  refine ⟨fun pins s σ H Q I h => ?_⟩
  refine wpAny_Call_Name_kw (ld_glob I hg hm ?_ hdb)
  refine PySem.W.callWith_K (h₀ := X.base) I.ok.mod.kin hk (thn (ha.run pos pins s σ H _ I h) fun us s1 ⟨vs, H1, I1, r, q⟩ => ⟨I1.kIn, ?_⟩) he hpl
  exact run_fnSd F hr hb hd (hx σ) I1 r q
end
end L2
namespace K30
open PySem L2
/-- a def that lets an error out, ready to be called by its name -/
structure CalX (P : Program) (w : World) (K : PySem.W.Frag) (mg : Str → Option Value) (base : Heap) (k : Nat) (x : Str) (sp : Sp) (dvs : List V) : Prop where
  got : ∃ (f : Addr) (fd : FuncData) (ps : List Str) (ds : List Value), (FnOk P w K mg base (L2.CX P w) k f fd ps sp ∧ mg x = some (.ref f)) ∧ (PySem.W.keepIn K (.ref f) = true ∧ Binds K fd ps ds) ∧ Vals dvs ds
section
variable {X : Cx} {k j : Nat} {x : Str} {sp : Sp} {dvs : List V} {p pos : Pos} {e : Expr} {es : List Expr} {t : TA} {W : WX}
theorem pe_cX (c : CalX X.prog X.w X.K X.mg X.base k x sp dvs) (hr : Room j X.A) (hk : k ≤ j) (tk : Takes X W) (hg : Gl X x) (ha : PA X (e :: es) t)
    (h1 : (x == ("__debug__" : Str)) = false := by decide) (h2 : starEach (e :: es) X.env = (false, eval e X.env) :: starEach es X.env := by rfl) (h3 : (backTo pos (starEach es X.env)).any (·.1) = false := by rfl) :
    PE X (.Call (.Name x p) (e :: es) [] pos) (tCallSd sp dvs (WE W) t) :=
  let ⟨_, _, _, _, ⟨F, hm⟩, ⟨kp, b⟩, d⟩ := c.got
  pe_callSd F (hr.mono hk) hg hm kp b d (fun σ => passAt tk σ) ha h1 h2 h3
end
section
variable {P : Program} {w0 : World} {K : PySem.W.Frag} {mg : Str → Option Value} {base : Heap}

/-! ### _law_refuses -/
def spRefuses : Sp := fun vs H Q _ => ∃ (n : Nat) (a : Addr) (ts : List Tri), vs = [vI n, .ref a] ∧ Raw H n a ts ∧ ¬ (hl (sortT (ts.map srt))).Nodup ∧ ∀ H' : Hp, Same H H' → Q (.bl true) H'
theorem scRefuses : FnScope ["_law_count", "_law_threes_here"] ["_law_count", "_law_threes_here"] (defScope sRefuses) := ⟨rfl, rfl, rfl, by decide +kernel, rfl, by decide +kernel, by decide +kernel⟩
theorem ok_refuses {f CI : Addr} {fd : FuncData} (F : Fun K "_law_refuses" "_law_refuses" sRefuses f fd) (cC : CalX P w0 K mg base 9 "complete" (spCompX CI) [vI 20000]) (gP : mg "InvalidSystem" = some (.ref CI)) (eP : PySem.W.exmOne K (.ref CI) (.ref CI) = some true) : FnOk P w0 K mg base CX0 10 f fd ["_law_count", "_law_threes_here"] spRefuses := by
  refine F.ok scRefuses (fun vs H Q E h => ?_) (fun cdv A outer s H vs Q E hr h => ?_)
  · obtain ⟨n, a, ts, rfl, _⟩ := h
    rfl
  · obtain ⟨n, a, ts, rfl, hR, hN, k⟩ := h
    refine ⟨_, pss_cons (ps_try_only rfl rfl ⟨rfl, by decide, .inl gP⟩ takes0 (fun W pn xe tk _ => pss_one (ps_expr (pe_cX cC hr (Nat.le_refl _) tk (by rfl) (pa_cons (pv 0) (pa_cons (pv 1) pa_nil))))) (fun a oe cls d pn _ _ => pss_one (ps_ret pe_bl))) (pss_one (ps_ret pe_bl)), ?_⟩
    refine ⟨_, rfl, _, rfl, n, a, ts, rfl, hR, hN, fun H' s1 => ?_⟩
    exact ⟨true, eP, fun _ a ha => k H' s1, fun q => nomatch q⟩
end
end K30
end

section
set_option Elab.async false
set_option autoImplicit false
set_option linter.all false
set_option maxRecDepth 100000
set_option maxHeartbeats 4000000
namespace K30
open PySem L2
/-! ### rows of threes compared -/
theorem trD_alike (t u : Tri) : PySem.W.alike (trD t) (trD u) = true := by simp [trD, PySem.W.alike, PySem.W.alikeAll]
theorem trDs_alike : ∀ x y : List Tri, PySem.W.alikeAll (x.map trD) (y.map trD) = true
  | [], _ => by simp [PySem.W.alikeAll]
  | _ :: _, [] => by simp [PySem.W.alikeAll]
  | a :: x, b :: y => by simp [PySem.W.alikeAll, trD_alike a b, trDs_alike x y]
theorem trDs_alike' (x y : List Tri) : PySem.W.alike (.list (x.map trD)) (.list (y.map trD)) = true := by
  simp only [PySem.W.alike]
  exact trDs_alike x y
theorem trD_lt (t u : Tri) : PySem.W.dataLt (trD t) (trD u) = decide (ltT t u) := by
  obtain ⟨a, b, c⟩ := t
  obtain ⟨a', b', c'⟩ := u
  unfold trD
  rw [PySem.W.dataLt_tuple, PySem.W.dataLt_cons (by simp [PySem.W.alike]), PySem.W.dataLt_cons (by simp [PySem.W.alike]), PySem.W.dataLt_cons (by simp [PySem.W.alike]), PySem.W.dataLt_int, PySem.W.dataLt_int, PySem.W.dataLt_int]
  have e : PyProof.Rows.lexLt PyProof.Rows.itemOrd (PySem.W.keyToksAll []) (PySem.W.keyToksAll []) = false := PyProof.Rows.lex_irrefl _
  rw [e]
  simp only [PyData.eqv, beq_iff_eq]
  unfold ltT
  by_cases h1 : (a : Int) = (a' : Int)
  · rw [if_pos h1]
    have h1' : a = a' := Int.ofNat_inj.mp h1
    by_cases h2 : (b : Int) = (b' : Int)
    · rw [if_pos h2]
      have h2' : b = b' := Int.ofNat_inj.mp h2
      by_cases h3 : (c : Int) = (c' : Int)
      · rw [if_pos h3]
        have h3' : c = c' := Int.ofNat_inj.mp h3
        refine (decide_eq_false ?_).symm
        simp only
        omega
      · rw [if_neg h3]
        refine decide_eq_decide.mpr ?_
        simp only
        omega
    · rw [if_neg h2]
      refine decide_eq_decide.mpr ?_
      simp only
      omega
  · rw [if_neg h1]
    refine decide_eq_decide.mpr ?_
    simp only
    omega
theorem rows_gt : ∀ v W : List Tri, PySem.W.rowLt (W.map trD) (v.map trD) = gtL v W
  | [], [] => PyProof.Rows.lex_irrefl _
  | [], b :: y => by
    unfold PySem.W.rowLt
    rw [List.map_cons, List.map_nil, PySem.W.toks_all_cons]
    simp only [PySem.W.keyToksAll]
    rw [PyProof.Rows.lex_diff (O := PyProof.Rows.itemOrd) (by simp)]
    rfl
  | a :: x, [] => by
    unfold PySem.W.rowLt
    rw [List.map_cons, List.map_nil, PySem.W.toks_all_cons]
    simp only [PySem.W.keyToksAll]
    rw [PyProof.Rows.lex_diff (O := PyProof.Rows.itemOrd) (by simp)]
    rfl
  | a :: x, b :: y => by
    have h := rows_gt x y
    unfold PySem.W.rowLt at h ⊢
    rw [List.map_cons, List.map_cons, PySem.W.dataLt_cons (trD_alike b a), trD_eqv, trD_lt, h]
    show _ = if a = b then gtL x y else decide (ltT b a)
    by_cases e : a = b
    · rw [if_pos e, if_pos (decide_eq_true e.symm)]
    · rw [if_neg e, if_neg (by rw [decide_eq_false (fun z => e z.symm)]; exact Bool.false_ne_true)]
theorem gt_rows (v W : List Tri) : PySem.W.dataLt (.list (W.map trD)) (.list (v.map trD)) = gtL v W := by
  rw [PySem.W.dataLt_list]
  exact rows_gt v W

/-! ### what is chosen, what is left -/
structure Chosen (n : Nat) (W : List Tri) : Prop where
  w : Whole n W
  s : W.Pairwise leT
  n1 : 7 ≤ n
  n2 : n ≤ 13
  l1 : 7 ≤ W.length
  l2 : W.length ≤ 26
  ev : ∀ x < n, (allPairs n).countP (has x) % 2 = 0
theorem chosen_of {n : Nat} {N : List Nat} {B : List Tri} (h : Names n N) (w : Whole n B) (n1 : 7 ≤ n) (n2 : n ≤ 13) (l1 : 7 ≤ B.length) (l2 : B.length ≤ 26) (ev : ∀ x < n, (allPairs n).countP (has x) % 2 = 0) : Chosen n (sortT (B.map fun t => srt (ren N t))) := by
  have hl : (sortT (B.map fun t => srt (ren N t))).length = B.length := by rw [(sortT_perm _).length_eq, List.length_map]
  exact ⟨(whole_ren h w).perm (sortT_perm _).symm, sortT_sorted _, n1, n2, by omega, by omega, ev⟩
theorem chosen7 {N : List Nat} (h : Names 7 N) : Chosen 7 (sortT (base7.map fun t => srt (ren N t))) := chosen_of h whole7 (by decide) (by decide) (by decide) (by decide) even7
theorem chosen9 {N : List Nat} (h : Names 9 N) : Chosen 9 (sortT (base9.map fun t => srt (ren N t))) := chosen_of h whole9 (by decide) (by decide) (by decide) (by decide) even9
theorem base13_len : base13.length = 26 := by
  unfold base13
  rw [(sortT_perm _).length_eq, List.length_map, raw13_len]
theorem chosen13 {N : List Nat} (h : Names 13 N) : Chosen 13 (sortT (base13.map fun t => srt (ren N t))) := chosen_of h whole13 (by decide) (by decide) (by rw [base13_len]; decide) (by rw [base13_len]; decide) even13
structure Left (n : Nat) (W T : List Tri) : Prop where
  c : Chosen n W
  sub : T.Sublist W
  l1 : 2 ≤ T.length
  l2 : W.length ≤ T.length + 5
section
variable {n : Nat} {W T : List Tri}
theorem Left.sys (h : Left n W T) : Sys n T := left_sys h.c.w.toSys h.sub
theorem Left.sort (h : Left n W T) : sortT (T.map srt) = T := sort_id h.sys.ok (h.c.s.sublist h.sub)
theorem Left.opens (h : Left n W T) : (openOf n (hl T)).length ≤ 15 := by
  rw [left_open h.c.w h.sub]
  have := h.l2
  omega
theorem Left.short (h : Left n W T) : T.length < 64 := by
  have := h.sub.length_le
  have := h.c.l2
  omega
theorem Left.done (h : Left n W T) : Done n T := ⟨W, h.c.w, fun _ ht => h.sub.subset ht⟩
theorem Left.even (h : Left n W T) : ∀ x < n, (openOf n (hl T)).countP (has x) % 2 = 0 := fun _ hx => open_even h.sys h.c.ev hx
theorem Left.raw (h : Left n W T) {H : Hp} {a : Addr} (hT : TrL H a T) : Raw H n a T := raw_of (by have := h.c.n1; omega) (by have := h.c.n2; omega) (.inl hT) h.sys.ok h.short
theorem Chosen.sort (h : Chosen n W) : sortT (W.map srt) = W := sort_id h.w.ok h.s
theorem Chosen.raw (h : Chosen n W) {H : Hp} {a : Addr} (hT : TrL H a W ∨ TrT H a W) : Raw H n a W := raw_of (by have := h.n1; omega) (by have := h.n2; omega) hT h.w.ok (by have := h.l2; omega)
end
/-- a whole system that stands in order -/
theorem whole_sort {n : Nat} {v : List Tri} (w : Whole n v) (s : v.Pairwise leT) : sortT (v.map srt) = v := sort_id w.ok s

/-! ### the three put in beside -/
theorem twice {n : Nat} {T : List Tri} {a b c o : Nat} (S : ∀ t ∈ T, okT n t) (h : (a, b, c) ∈ T) (d : dif n (a, o, b)) : ¬ (hl (sortT ((T ++ [(a, o, b)]).map srt))).Nodup := fun z => by
  have h1 : (hl ((T ++ [(a, o, b)]).map srt)).Nodup := ((sortT_perm _).flatMap_right pairsOf).nodup z
  rw [List.map_append, hl_append, srt_id S, List.map_cons, List.map_nil, hl_one] at h1
  have hab := (S _ h).1
  refine (List.nodup_append.mp h1).2.2 (a, b) (mem_hl.mpr ⟨_, h, List.mem_cons_self⟩) (a, b) ?_ rfl
  refine (srt_pairs d (a, b)).mpr (.inr (.inl ?_))
  exact (opr_lt hab).symm
/-- the points beside three of them -/
def besides (n a b c : Nat) : List Nat := (List.range n).filter fun x => decide (x ∉ [a, b, c])
theorem besides_len {n a b c : Nat} (hab : a < b) (hbc : b < c) (hc : c < n) : (besides n a b c).length = n - 3 := by
  have h : (besides n a b c ++ [a, b, c]).Perm (List.range n) := by
    refine (List.perm_ext_iff_of_nodup ?_ List.nodup_range).mpr fun x => ?_
    · refine List.nodup_append.mpr ⟨List.nodup_range.filter _, ?_, fun x hx y hy e => ?_⟩
      · simp; omega
      · subst e
        have := (List.mem_filter.mp hx).2
        exact absurd hy (by simpa using this)
    · rw [List.mem_append, besides, List.mem_filter, List.mem_range]
      constructor
      · rintro (h | h)
        · exact h.1
        · simp at h
          omega
      · intro h
        by_cases e : x ∈ [a, b, c]
        · exact .inr e
        · exact .inl ⟨h, decide_eq_true e⟩
  have := h.length_eq
  rw [List.length_append, List.length_range] at this
  have e3 : [a, b, c].length = 3 := rfl
  omega
theorem besides_at {n a b c j x : Nat} (h : (besides n a b c)[j]? = some x) : x < n ∧ x ≠ a ∧ x ≠ b ∧ x ≠ c := by
  have := List.mem_filter.mp (List.mem_of_getElem? h)
  refine ⟨List.mem_range.mp this.1, ?_⟩
  have := of_decide_eq_true this.2
  simpa using this
theorem paired_erase {α β : Type} {F : α → β → Prop} : ∀ {l : List α} {m : List β} (k : Nat), Paired F l m → Paired F (l.eraseIdx k) (m.eraseIdx k)
  | _, _, _, .nil => .nil
  | _, _, 0, .cons _ t => t
  | _, _, k + 1, .cons r t => .cons r (paired_erase k t)
end K30
end

section
set_option Elab.async false
set_option autoImplicit false
set_option linter.all false
set_option maxRecDepth 100000
set_option maxHeartbeats 4000000
namespace K30
open PySem L2
theorem eqv_self (v : List Tri) : PyData.eqv (.list (v.map trD)) (.list (v.map trD)) = true := PySem.W.eqv_refl_alike _ (trDs_alike' v v)
theorem whole_len {n : Nat} {v W : List Tri} (a : Whole n v) (b : Whole n W) : v.length = W.length := by
  have h1 := open_len a.toSys
  have h2 := open_len b.toSys
  rw [a.open, List.length_nil] at h1
  rw [b.open, List.length_nil] at h2
  omega
theorem inV_three (x a b c : Nat) : inV (vI x) [vI a, vI b, vI c] = decide (x ∈ [a, b, c]) := by
  show ((((a : Int)) == (x : Int)) || ((((b : Int)) == (x : Int)) || ((((c : Int)) == (x : Int)) || false))) = _
  rw [Bool.eq_iff_iff]
  simp
  omega
theorem besides_snoc (i a b c : Nat) : besides (i + 1) a b c = besides i a b c ++ (if i ∈ [a, b, c] then [] else [i]) := by
  unfold besides
  rw [List.range_succ, List.filter_append]
  congr 1
  by_cases h : i ∈ [a, b, c]
  · rw [if_pos h, List.filter_cons_of_neg (by rw [decide_eq_true_eq]; exact fun z => z h), List.filter_nil]
  · rw [if_neg h, List.filter_cons_of_pos (p := fun x => decide (x ∉ [a, b, c])) (decide_eq_true h), List.filter_nil]
structure LawT (P : Program) (w0 : World) (K : PySem.W.Frag) (mg : Str → Option Value) (base : Heap) : Prop where
  cNum : Cal P w0 K mg base 2 "_law_numbers" (spNumbers K) []
  cPick : Cal P w0 K mg base 1 "_law_pick" spPick []
  cLis : Cal P w0 K mg base 1 "_law_listed" spListed []
  cRen : Cal P w0 K mg base 1 "_law_renamed" spRenamed []
  cThr : Cal P w0 K mg base 1 "_law_threes" spThrees []
  cRef : Cal P w0 K mg base 10 "_law_refuses" spRefuses []
  cWh : Cal P w0 K mg base 4 "is_whole" spWhole []
  cOdd : Cal P w0 K mg base 5 "odd_point" spOdd []
  cNone : Cal P w0 K mg base 10 "none_paper" spNone [vI 20000]
  cComp : Cal P w0 K mg base 9 "complete" spComp [vI 20000]
  cIsC : Cal P w0 K mg base 5 "is_completion" spIsComp []
  cCnt : Cal P w0 K mg base 9 "completion_count" spCnt [vI 20000]
  zLi : mg "list" = none
  zR : mg "range" = none
  zL : mg "len" = none
  zS : mg "sorted" = none
  zT : mg "tuple" = none
section
variable {P : Program} {w0 : World} {K : PySem.W.Frag} {mg : Str → Option Value} {base : Heap}

/-! ### law -/
def spLaw (K : PySem.W.Frag) : Sp := fun vs H Q _ => ∃ (a : Addr) (zs : List Int), vs = [.ref a] ∧ SqL K H a (zs.map V.int) ∧ zs.length ≤ 63 ∧ ∀ H' : Hp, Q (.bl true) H'
def NL : List Str := ["_law_script", "_law_numbers_here", "_law_count", "_law_threes_here", "_law_three", "_law_left", "_law_k", "_law_found", "_law_a", "_law_b", "_law_c", "_law_point", "_law_other"]
theorem scLaw : FnScope ["_law_script", "_law_numbers_here", "_law_count", "_law_threes_here", "_law_three", "_law_left", "_law_k", "_law_found", "_law_a", "_law_b", "_law_c", "_law_point", "_law_other"] ["_law_script"] (defScope sLaw) := ⟨rfl, rfl, rfl, by decide +kernel, rfl, by decide +kernel, by decide +kernel⟩
theorem ok_law {f : Addr} {fd : FuncData} (F : Fun K "law" "law" sLaw f fd) (T : LawT P w0 K mg base) : FnOk P w0 K mg base CX0 11 f fd ["_law_script"] (spLaw K) := by
  refine F.ok scLaw (fun vs H Q E h => ?_) (fun cdv A outer s H vs Q E hr h => ?_)
  · obtain ⟨a, zs, rfl, _⟩ := h
    rfl
  · obtain ⟨a, zs, rfl, hz, hzl, k⟩ := h
    have nd := scLaw.nd
    have h1 : 1 ≤ 10 := by decide
    have h2 : 2 ≤ 10 := by decide
    have h4 : 4 ≤ 10 := by decide
    have h5 : 5 ≤ 10 := by decide
    have h9 : 9 ≤ 10 := by decide
    refine ⟨_, pss_cons (ps_set (i := 1) nd rfl (.inl rfl) (pe_c T.cNum hr h2 (by rfl) (pa_cons (pv 0) (pa_cons pe_int pa_nil))))
      (pss_cons (ps_asg (pe_c T.cRen hr h1 (by rfl) (pa_cons (pe_c T.cLis hr h1 (by rfl) (pa_cons (pe_op op_add pe_int (pe_c T.cPick hr h1 (by rfl) (pa_cons (pv 1) (pa_cons pe_int (pa_cons pe_int pa_nil))))) pa_nil)) (pa_cons (pv 1) (pa_cons pe_int pa_nil))))
        (pg_tup rfl (pgs_cons (pg_name (i := 2) nd rfl (.inl rfl)) (pgs_cons (pg_name (i := 3) nd rfl (.inl rfl)) pgs_nil))))
      (pss_cons (ps_if (pt_cmpR op_eq (pe_c T.cPick hr h1 (by rfl) (pa_cons (pv 1) (pa_cons pe_int (pa_cons pe_int pa_nil)))) pe_int (nomark _))
        (pss_cons (ps_set (i := 2) nd rfl (.inl rfl) pe_int)
        (pss_cons (ps_set (i := 3) nd rfl (.inl rfl) (pe_tupleOf (by rfl) T.zT (pe_callB (cr_sortT (d := 3) (B := 64) (by decide)) (by rfl) T.zS (by decide +kernel) (pa_cons
          (pe_lc (own := [("_law_three", 4)]) (g := gName 4) (tt := tYes) (te := tThen (tCB (rSortedTup K) (tCons (tVar 4) tNil)) (kTup K)) rfl nd (pi_list (pe_c T.cThr hr h1 (by rfl) (pa_cons (pe_tup (pa_cons pe_str (pa_cons pe_int pa_nil))) pa_nil))) (blkOk_by (N := NL) (sc := defScope sLaw) (by decide +kernel))
            (fun _ _ _ _ _ => pg_name (i := 4) nd rfl (.inl rfl)) (fun _ _ _ _ _ => pts_nil)
            (fun _ _ _ _ _ => pe_tupleOf (by rfl) T.zT (pe_callB cr_sortedTup (by rfl) T.zS (by decide +kernel) (pa_cons (pv 4) pa_nil)))) pa_nil))))
        (pss_one (ps_asg (pe_c T.cRen hr h1 (by rfl) (pa_cons (pe_tup (pa_cons (pv 2) (pa_cons (pv 3) pa_nil))) (pa_cons (pv 1) (pa_cons pe_int pa_nil))))
          (pg_tup rfl (pgs_cons (pg_name (i := 2) nd rfl (.inl rfl)) (pgs_cons (pg_name (i := 3) nd rfl (.inl rfl)) pgs_nil))))))) pss_nil)
      (pss_cons (ps_set (i := 5) nd rfl (.inl rfl) (pe_callTy call_list_of (by rfl) T.zLi (by decide +kernel) (pa_cons (pv 3) pa_nil)))
      (pss_cons (ps_for PassesOwn.never rfl (pi_range1 (by rfl) T.zR (pa_cons (pe_op op_add pe_int (pe_c T.cPick hr h1 (by rfl) (pa_cons (pv 1) (pa_cons pe_int (pa_cons pe_int pa_nil))))) pa_nil)) (pg_name (i := 6) nd rfl (.inl rfl))
        (pss_one (ps_expr (pe_bm PySem.F.plainAttrs_list PySem.F.slot_list_pop PySem.F.type_list_pop mt_popAt (pv 5) (pa_cons (pe_c T.cPick hr h1 (by rfl) (pa_cons (pv 1) (pa_cons (pe_op op_add pe_int (pv 6)) (pa_cons (pe_callB call_len_seq (by rfl) T.zL PySem.boot_len (pa_cons (pv 5) pa_nil)) pa_nil)))) pa_nil)))))
      (pss_cons (ps_if (pw_or (pt_not (pt_val (pe_c T.cWh hr h4 (by rfl) (pa_cons (pv 2) (pa_cons (pv 3) pa_nil))))) (pw_or (pt_cmpR op_notN (pe_c T.cOdd hr h5 (by rfl) (pa_cons (pv 2) (pa_cons (pv 5) pa_nil))) pe_non (nomark _))
        (pw_or1 (pt_cmpR op_notN (pe_c T.cNone hr (Nat.le_refl _) (by rfl) (pa_cons (pv 2) (pa_cons (pv 5) pa_nil))) pe_non (nomark _))))).pt (pss_one ps_never) pss_nil)
      (pss_cons (ps_set (i := 7) nd rfl (.inl rfl) (pe_c T.cComp hr h9 (by rfl) (pa_cons (pv 2) (pa_cons (pv 5) pa_nil))))
      (pss_cons (ps_if (pw_or (pt_cmpR op_isN (pv 7) pe_non (nomark _)) (pw_or (pt_cmpR (op_gtD (hu64 hr)) (pv 7) (pe_callTy call_list_of (by rfl) T.zLi (by decide +kernel) (pa_cons (pv 3) pa_nil)) (by rfl))
        (pw_or1 (pt_not (pt_val (pe_c T.cIsC hr h5 (by rfl) (pa_cons (pv 2) (pa_cons (pv 5) (pa_cons (pv 7) pa_nil))))))))).pt (pss_one ps_never) pss_nil)
      (pss_cons (ps_if (pw_or (pt_cmpR (op_neD (hu64 hr)) (pe_c T.cComp hr h9 (by rfl) (pa_cons (pv 2) (pa_cons (pv 7) pa_nil))) (pv 7) (by rfl)) (pw_or (pt_cmpR op_ne (pe_c T.cCnt hr h9 (by rfl) (pa_cons (pv 2) (pa_cons (pv 7) pa_nil))) pe_int (nomark _))
        (pw_or1 (pt_cmpR op_lt (pe_c T.cCnt hr h9 (by rfl) (pa_cons (pv 2) (pa_cons (pv 5) pa_nil))) pe_int (nomark _))))).pt (pss_one ps_never) pss_nil)
      (pss_cons (ps_asg (pe_ix ix_list (pv 5) (pe_c T.cPick hr h1 (by rfl) (pa_cons (pv 1) (pa_cons pe_int (pa_cons (pe_callB call_len_seq (by rfl) T.zL PySem.boot_len (pa_cons (pv 5) pa_nil)) pa_nil)))) (fun _ _ => rfl))
        (pg_tup rfl (pgs_cons (pg_name (i := 8) nd rfl (.inr rfl)) (pgs_cons (pg_name (i := 9) nd rfl (.inr rfl)) (pgs_cons (pg_name (i := 10) nd rfl (.inr rfl)) pgs_nil)))))
      (pss_cons (ps_set (i := 12) nd rfl (.inl rfl) (pe_ix ix_list
          (pe_lc (own := [("_law_point", 11)]) (g := gName 11) (tt := tTest (tOp (rIn K true) (tVar 11) (tLst (tCons (tVar 8) (tCons (tVar 9) (tCons (tVar 10) tNil)))))) (te := tVar 11) rfl nd (pi_range1 (by rfl) T.zR (pa_cons (pv 2) pa_nil)) (blkOk_by (N := NL) (sc := defScope sLaw) (by decide +kernel))
            (fun _ _ _ _ _ => pg_name (i := 11) nd rfl (.inl rfl)) (fun _ _ _ _ _ => pts_one (pt_cmpR op_notIn_seq (pv 11) (pe_lst (pa_cons (pv 8) (pa_cons (pv 9) (pa_cons (pv 10) pa_nil)))) (by rfl)))
            (fun _ _ _ _ _ => pv 11))
          (pe_c T.cPick hr h1 (by rfl) (pa_cons (pv 1) (pa_cons pe_int (pa_cons (pe_op op_sub (pv 2) pe_int) pa_nil)))) (fun _ _ => rfl)))
      (pss_one (ps_ret (pe_c T.cRef hr (Nat.le_refl _) (by rfl) (pa_cons (pv 2) (pa_cons (pe_op op_cat (pv 5) (pe_lst (pa_cons (pe_tup (pa_cons (pv 8) (pa_cons (pv 12) (pa_cons (pv 9) pa_nil)))) pa_nil))) pa_nil))))))))))))))), ?_⟩
    -- the numbers
    refine seq_by (Inv := fun σ' H' => ∃ (p : Addr) (ns : List Nat), σ' = [some (.ref a), some (.ref p), none, none, none, none, none, none, none, none, none, none, none] ∧ Nums H' p ns ∧ ns.length = 60) ?_ ?_
    · exact fun Nx hNx => ⟨_, rfl, a, zs, rfl, hz, hzl, fun H1 p ns _ _ hN hnl => hNx _ _ ⟨p, ns, rfl, hN, hnl⟩⟩
    rintro σ H1 ⟨p, ns, rfl, hN, hnl⟩
    -- the listed system, renamed
    refine seq_by (Inv := fun σ' H' => ∃ (n : Nat) (q : Addr) (W : List Tri), σ' = [some (.ref a), some (.ref p), some (vI n), some (.ref q), none, none, none, none, none, none, none, none, none] ∧ Nums H' p ns ∧ TrT H' q W ∧ Chosen n W) ?_ ?_
    · intro Nx hNx
      have go : ∀ (n : Nat) (B : List Tri) (H2 : Hp) (l : Addr) (σ : St), σ = [some (.ref a), some (.ref p), none, none, none, none, none, none, none, none, none, none, none] → Same H1 H2 → Lst H2 l n B → 7 ≤ n → n ≤ 9 → (∀ t ∈ B, dif n t) → B.length < 64 → (∀ N, Names n N → Chosen n (sortT (B.map fun t => srt (ren N t)))) →
          spRenamed [.ref l, .ref p, vI 1] H2 (fun x H3 => gTup K 2 (gCons (gName 2) (gCons (gName 3) gNil)) x σ H3 Nx) E0 := fun n B H2 l σ hσ s2 hL n1 n2 hd hl hC => by
        subst hσ
        refine ⟨l, p, 1, n, B, ns, rfl, hL, by omega, by omega, s2 _ _ hN, by omega, by omega, hd, hl, fun H3 q N s3 hNN ⟨q2, hq, hT⟩ => ?_⟩
        refine ⟨q, _, rfl, SqT.of hq, rfl, _, _, rfl, _, _, rfl, rfl, hNx _ _ ⟨n, q2, _, rfl, s3 _ _ (s2 _ _ hN), hT, hC N hNN⟩⟩
      refine ⟨_, rfl, p, ns, 0, 2, rfl, hN, by omega, by decide, fun r hr2 => ⟨_, _, rfl, rfl, ?_⟩⟩
      match r, hr2 with
      | 0, _ => exact .inl ⟨rfl, fun H2 l s2 hL => ⟨_, rfl, go 7 base7 H2 l _ rfl s2 hL (by decide) (by decide) (fun t ht => okT_dif (whole7.ok t ht)) (by decide) fun N h => chosen7 h⟩⟩
      | 1, _ => exact .inr ⟨rfl, fun H2 l s2 hL => ⟨_, rfl, go 9 base9 H2 l _ rfl s2 hL (by decide) (by decide) (fun t ht => okT_dif (whole9.ok t ht)) (by decide) fun N h => chosen9 h⟩⟩
    rintro σ H2 ⟨n, q, W, rfl, hN2, hT2, C2⟩
    -- or the one of 13 points
    refine seq_by (Inv := fun σ' H' => ∃ (n : Nat) (q : Addr) (W : List Tri), σ' = [some (.ref a), some (.ref p), some (vI n), some (.ref q), none, none, none, none, none, none, none, none, none] ∧ Nums H' p ns ∧ TrT H' q W ∧ Chosen n W) ?_ ?_
    · intro Nx hNx
      refine ⟨_, rfl, p, ns, 14, 2, rfl, hN2, by omega, by decide, fun r hr2 => ⟨rfl, _, rfl, ?_⟩⟩
      by_cases hr0 : r = 0
      · subst hr0
        rw [decide_eq_true (show vI 0 = V.int 0 from rfl)]
        refine iteT ⟨ln (by show 2 ≤ 100000; decide), fun tr htr => ⟨tr, rfl, upd_same, fun H3 l3 s3 hl30 hT3 => ?_⟩⟩
        have s23 := (same_upd (o := .tup [V.str "skolem", V.int 13]) htr).trans s3
        obtain ⟨xs, hx, hX⟩ := hT3
        have lX := Paired.length hX
        rw [raw13_len] at lX
        refine ⟨l3, rfl, ⟨xs, SqL.of hx⟩, fun D hD => ?_⟩
        refine lc_list (K := K) (a := l3) (xs := xs) (fun i H' => Same H3 H' ∧ TrL H' D ((raw13.take i).map srt)) ⟨same_upd hD, [], upd_same, .nil⟩ (fun i H' _ h => SqL.of (h.1 _ _ hx)) ?_ ?_
        · rintro i x H' hi ⟨sm, ys, hy, hpy⟩
          obtain ⟨t, hti, hxt⟩ := paired_at hX hi
          have hxt' := hxt.same sm
          refine ⟨rfl, _, rfl, tn (sorted_tri hxt' fun r hr0 => .inl ⟨r, _, rfl, SqL.of upd_same, fun u hu => ?_⟩)⟩
          have s4 := same_upd (o := .lst (trV (srt t))) hr0
          have s5 := same_upd (o := .tup (trV (srt t))) hu
          have s25 := s4.trans s5
          have hl1 := Paired.length hpy
          have hli := (List.getElem?_eq_some_iff.mp hi).1
          rw [List.length_map, List.length_take] at hl1
          refine ⟨ys, s25 _ _ hy, lt_ln (by omega), same_back (sm.trans s25) hD, _, upd_same, ?_⟩
          have tp := (Tups.of s25).trans (tups_upd (o' := .lst (ys ++ [.ref u])) (s25 _ _ hy) fun _ z => nomatch z)
          rw [take_more hti, List.map_append]
          refine paired_snoc (trs_tups hpy tp) ⟨u, rfl, ?_⟩
          exact tups_upd (s25 _ _ hy) (fun _ z => nomatch z) _ _ upd_same
        · rintro H4 ⟨sm, hT4⟩
          rw [lX, ← raw13_len, List.take_length] at hT4
          refine tn (sorted_trs hT4 (by rw [List.length_map, raw13_len]; decide) (fun t ht => ?_) fun r zs' hr0 hzs => .inl ⟨r, zs', rfl, SqL.of upd_same, fun u hu => ?_⟩)
          · obtain ⟨t', ht', rfl⟩ := List.mem_map.mp ht
            exact ok_low (srt_dif (raw13_dif t' ht')) (by decide)
          · have s5 := same_upd (o := .lst zs') hr0
            have s6 := same_upd (o := .tup zs') hu
            refine ⟨_, rfl, _, rfl, ln (by show 2 ≤ 100000; decide), fun l hl => ?_⟩
            have s7 := same_upd (o := .tup [V.int 13, .ref u]) hl
            refine ⟨_, rfl, l, p, 20, 13, base13, ns, rfl, ⟨u, upd_same, zs', s7 _ _ upd_same, trs_tups hzs (Tups.of (s5.trans (s6.trans s7)))⟩, by decide, by decide, ?_, by omega, by omega, fun t ht => okT_dif (whole13.ok t ht), by rw [base13_len]; decide, fun H8 q8 N s8 hNN ⟨q2, hq, hT⟩ => ?_⟩
            · exact s7 _ _ (s6 _ _ (s5 _ _ (sm _ _ (s23 _ _ hN2))))
            · exact ⟨q8, _, rfl, SqT.of hq, rfl, _, _, rfl, _, _, rfl, rfl, hNx _ _ ⟨13, q2, _, rfl, s8 _ _ (s7 _ _ (s6 _ _ (s5 _ _ (sm _ _ (s23 _ _ hN2))))), hT, chosen13 hNN⟩⟩
      · rw [decide_eq_false (show ¬ vI r = V.int 0 from fun z => hr0 (vI_inj (b := 0) z))]
        exact iteF (hNx _ _ ⟨n, q, W, rfl, hN2, hT2, C2⟩)
    clear hN2 hT2 C2
    rintro σ H3 ⟨n, q, W, rfl, hN3, hT3, C⟩
    -- the list
    refine seq_by (Inv := fun σ' H' => ∃ L : Addr, σ' = [some (.ref a), some (.ref p), some (vI n), some (.ref q), none, some (.ref L), none, none, none, none, none, none, none] ∧ Nums H' p ns ∧ TrT H' q W ∧ TrL H' L W ∧ p ≠ L) ?_ ?_
    · intro Nx hNx
      obtain ⟨ws, hq, hW⟩ := hT3
      refine ⟨_, rfl, q, ws, rfl, .inr (SqT.of hq), fun L hL => ?_⟩
      have s1 := same_upd (o := .lst ws) hL
      exact hNx _ _ ⟨L, rfl, s1 _ _ hN3, ⟨ws, s1 _ _ hq, trs_tups hW (Tups.of s1)⟩, ⟨ws, upd_same, trs_tups hW (Tups.of s1)⟩, ne_of_none hN3 hL⟩
    clear hN3 hT3
    rintro σ H4 ⟨L, rfl, hN4, hT4, hL4, hpL⟩
    -- some taken out
    refine seq_by (Inv := fun σ' H' => ∃ (v6 : Option V) (T : List Tri), σ' = [some (.ref a), some (.ref p), some (vI n), some (.ref q), none, some (.ref L), v6, none, none, none, none, none, none] ∧ Nums H' p ns ∧ TrT H' q W ∧ TrL H' L T ∧ Left n W T) ?_ ?_
    · intro Nx hNx
      refine ⟨_, rfl, p, ns, 15, 4, rfl, hN4, by omega, by decide, fun r hr4 => ?_⟩
      refine ⟨_, _, rfl, rfl, _, rfl, by omega, by omega, ?_⟩
      have e1 : ((2 : Int) + (r : Int)).toNat = 2 + r := by omega
      rw [e1]
      refine for_range (fun i σ H' => ∃ (v6 : Option V) (T : List Tri), σ = [some (.ref a), some (.ref p), some (vI n), some (.ref q), none, some (.ref L), v6, none, none, none, none, none, none] ∧ Nums H' p ns ∧ TrT H' q W ∧ TrL H' L T ∧ T.Sublist W ∧ T.length + i = W.length)
        ⟨none, W, rfl, hN4, hT4, hL4, List.Sublist.refl _, rfl⟩ ?_ ?_
      · rintro i σ H' hi ⟨v6, T, rfl, hN', hT', ⟨xs, hx, hX⟩, hs, hl⟩
        have hxl := Paired.length hX
        have c1 := C.l1
        refine ⟨_, rfl, .inl ⟨rfl, _, SqL.of hx⟩, _, rfl, _, rfl, _, _, rfl, rfl, _, rfl, L, _, rfl, .inl (SqL.of hx), p, ns, 40 + i, xs.length, ?_, hN', by omega, by omega, fun r hr0 => ?_⟩
        · show [V.ref p, V.int (40 + (0 + (i : Int))), vI xs.length] = _
          rw [show (40 : Int) + (0 + (i : Int)) = ((40 + i : Nat) : Int) by omega]
          rfl
        · refine ⟨L, xs, _, r, xs[r], rfl, rfl, hx, by omega, by have := C.l2; omega, (ixN_seq (ixN_nat hr0)).1, List.getElem?_eq_getElem hr0, ?_⟩
          have t1 := tups_upd (o' := .lst (xs.eraseIdx r)) hx fun _ z => nomatch z
          obtain ⟨ws, hq, hW⟩ := hT'
          refine ⟨_, T.eraseIdx r, rfl, ?_, ⟨ws, t1 _ _ hq, trs_tups hW t1⟩, ⟨_, upd_same, paired_erase r (trs_tups hX t1)⟩, (List.eraseIdx_sublist _ _).trans hs, ?_⟩
          · show upd _ _ _ _ = _
            rw [upd_ne hpL]
            exact hN'
          · rw [List.length_eraseIdx, if_pos (by omega)]
            omega
      · rintro σ H' ⟨v6, T, rfl, hN', hT', hL', hs, hl⟩
        have c1 := C.l1
        exact hNx _ _ ⟨v6, T, rfl, hN', hT', hL', ⟨C, hs, by omega, by omega⟩⟩
    clear hN4 hT4 hL4
    rintro σ H5 ⟨v6, T, rfl, hN5, hT5, hL5, LL⟩
    have n1 := LL.c.n1
    have n2 := LL.c.n2
    have eT := LL.sort
    have eW := LL.c.sort
    -- whole, no odd point, no paper
    refine seq_by (Inv := fun σ' H' => σ' = [some (.ref a), some (.ref p), some (vI n), some (.ref q), none, some (.ref L), v6, none, none, none, none, none, none] ∧ Same H5 H') ?_ ?_
    · intro Nx hNx
      refine ⟨_, rfl, _, rfl, n, q, W, rfl, LL.c.raw (.inr hT5), by rw [eW]; exact LL.c.w, fun H6 s6 => ⟨true, rfl, ?_⟩⟩
      refine iteF ⟨_, rfl, _, rfl, n, L, T, rfl, LL.raw (hL5.same s6), by rw [eT]; exact LL.sys.nd, by rw [eT]; exact LL.even, fun H7 s7 => ⟨rfl, _, rfl, ?_⟩⟩
      refine iteF ⟨_, rfl, _, rfl, n, L, T, rfl, LL.raw (hL5.same (s6.trans s7)), by omega, by rw [eT]; exact LL.sys, by rw [eT]; exact LL.opens, by rw [eT]; exact LL.done, fun H8 s8 => ⟨rfl, _, rfl, ?_⟩⟩
      exact iteF (hNx _ _ ⟨rfl, s6.trans (s7.trans s8)⟩)
    rintro σ H6 ⟨rfl, s56⟩
    have hN6 : Nums H6 p ns := s56 _ _ hN5
    have hT6 := hT5.same s56
    have hL6 := hL5.same s56
    clear hN5 hT5 hL5 s56
    -- the first completion
    obtain ⟨v, rs, ecs, hgt, wv, sv, hTv⟩ := first_of (d := 5) LL.c.w LL.c.s LL.sub LL.l2
    have lv := whole_len wv LL.c.w
    have l26 := LL.c.l2
    have ev := whole_sort wv sv
    refine seq_by (Inv := fun σ' H' => ∃ f : Addr, σ' = [some (.ref a), some (.ref p), some (vI n), some (.ref q), none, some (.ref L), v6, some (.ref f), none, none, none, none, none] ∧ Same H6 H' ∧ TrL H' f v) ?_ ?_
    · intro Nx hNx
      exact ⟨_, rfl, _, rfl, n, L, T, v, rs, rfl, LL.raw hL6, by omega, by rw [eT]; exact LL.sys, by rw [eT]; exact LL.opens, by rw [eT]; exact ecs, fun H7 f s7 hf => hNx _ _ ⟨f, rfl, s7, hf⟩⟩
    rintro σ H7 ⟨f, rfl, s67, hF⟩
    have hN7 : Nums H7 p ns := s67 _ _ hN6
    have hT7 := hT6.same s67
    have hL7 := hL6.same s67
    clear hN6 hT6 hL6 s67
    have rawV : ∀ {H : Hp}, TrL H f v → Raw H n f v := fun h => raw_of (by omega) (by omega) (.inl h) wv.ok (by omega)
    refine seq_by (Inv := fun σ' H' => σ' = [some (.ref a), some (.ref p), some (vI n), some (.ref q), none, some (.ref L), v6, some (.ref f), none, none, none, none, none] ∧ Same H7 H') ?_ ?_
    · intro Nx hNx
      refine ⟨_, rfl, rfl, _, rfl, ?_⟩
      obtain ⟨ws, hq, hW⟩ := id hT7
      refine iteF ⟨_, rfl, _, rfl, q, ws, rfl, .inr (SqT.of hq), fun l hl => ?_⟩
      have s8 := same_upd (o := .lst ws) hl
      refine ⟨.list (v.map trD), .list (W.map trD), (hF.same s8).dp, TrL.dp ⟨ws, upd_same, trs_tups hW (Tups.of s8)⟩, trDs_alike' _ _, (fun z => nomatch z), Nat.le_trans (trDs_depth' _) (by decide), _, rfl, ?_⟩
      rw [gt_rows, hgt]
      refine iteF ⟨_, rfl, _, rfl, _, rfl, n, L, f, T, v, rfl, LL.raw (hL7.same s8), by rw [eT]; exact LL.sys.nd, rawV (hF.same s8), by rw [ev]; exact wv, by rw [eT, ev]; exact hTv, fun H8 s9 => ⟨true, rfl, ?_⟩⟩
      exact iteF (hNx _ _ ⟨rfl, s8.trans s9⟩)
    rintro σ H8 ⟨rfl, s78⟩
    have hN8 : Nums H8 p ns := s78 _ _ hN7
    have hL8 := hL7.same s78
    have hF8 := hF.same s78
    clear hN7 hT7 hL7 hF s78
    refine seq_by (Inv := fun σ' H' => σ' = [some (.ref a), some (.ref p), some (vI n), some (.ref q), none, some (.ref L), v6, some (.ref f), none, none, none, none, none] ∧ Same H8 H') ?_ ?_
    · intro Nx hNx
      have opV : (openOf n (hl v)).length ≤ 15 := by rw [wv.open]; decide
      refine ⟨_, rfl, _, rfl, n, f, v, v, [], rfl, rawV hF8, by omega, by rw [ev]; exact wv.toSys, by rw [ev]; exact opV, by rw [ev]; exact comps_whole wv sv, fun H9 f2 s9 hf2 => ?_⟩
      refine ⟨_, rfl, .list (v.map trD), .list (v.map trD), hf2.dp, (hF8.same s9).dp, trDs_shaped _, trDs_shaped _, _, rfl, ?_⟩
      rw [eqv_self]
      refine iteF ⟨_, rfl, _, rfl, n, f, v, rfl, rawV (hF8.same s9), by omega, by rw [ev]; exact wv.toSys, by rw [ev]; exact opV, fun H10 s10 => ⟨rfl, _, rfl, ?_⟩⟩
      rw [ev, comps_whole wv sv]
      refine iteF ⟨_, rfl, _, rfl, n, L, T, rfl, LL.raw (hL8.same (s9.trans s10)), by omega, by rw [eT]; exact LL.sys, by rw [eT]; exact LL.opens, fun H11 s11 => ?_⟩
      rw [eT, ecs]
      refine ⟨_, _, rfl, rfl, _, rfl, ?_⟩
      rw [decide_eq_false (show ¬ (((v :: rs).length : Nat) : Int) < 1 by rw [List.length_cons]; omega)]
      exact iteF (hNx _ _ ⟨rfl, s9.trans (s10.trans s11)⟩)
    rintro σ H9 ⟨rfl, s89⟩
    have hN9 : Nums H9 p ns := s89 _ _ hN8
    have hL9 := hL8.same s89
    clear hN8 hL8 hF8 s89
    -- one of the threes that are left
    refine seq_by (Inv := fun σ' H' => ∃ x y z : Nat, (x, y, z) ∈ T ∧ H' = H9 ∧ σ' = [some (.ref a), some (.ref p), some (vI n), some (.ref q), none, some (.ref L), v6, some (.ref f), some (vI x), some (vI y), some (vI z), none, none]) ?_ ?_
    · intro Nx hNx
      obtain ⟨xs, hx, hX⟩ := id hL9
      have lX := Paired.length hX
      have l1 := LL.l1
      refine ⟨_, rfl, _, rfl, _, rfl, L, xs, rfl, .inl (SqL.of hx), p, ns, 46, xs.length, rfl, hN9, by omega, by omega, fun r hr0 => ?_⟩
      obtain ⟨⟨x, y, z⟩, hti, b0, hb0, hb⟩ := paired_at hX (List.getElem?_eq_getElem hr0)
      refine ⟨L, xs, _, xs[r], rfl, rfl, SqL.of hx, atI_nat (List.getElem?_eq_getElem hr0), ?_⟩
      rw [hb0]
      exact ⟨b0, _, rfl, SqT.of hb, rfl, _, _, rfl, _, _, rfl, _, _, rfl, rfl, hNx _ _ ⟨x, y, z, List.mem_of_getElem? hti, rfl, rfl⟩⟩
    rintro σ H' ⟨x, y, z, ht, rfl, rfl⟩
    obtain ⟨hxy, hyz, hzn⟩ := LL.sys.ok _ ht
    simp only at hxy hyz hzn
    -- another point
    refine seq_by (Inv := fun σ' H10 => ∃ o : Nat, dif n (x, o, y) ∧ Same H' H10 ∧ σ' = [some (.ref a), some (.ref p), some (vI n), some (.ref q), none, some (.ref L), v6, some (.ref f), some (vI x), some (vI y), some (vI z), none, some (vI o)]) ?_ ?_
    · intro Nx hNx
      refine ⟨_, rfl, _, rfl, by omega, by omega, fun D hD => ?_⟩
      rw [Int.toNat_natCast]
      refine any_it walk_range (fun i H2 => Same H' H2 ∧ H2 D = some (.lst ((besides i x y z).map vI))) ⟨same_upd hD, upd_same⟩ (fun _ _ _ _ => trivial) ?_ ?_
      · rintro i w H2 H2' hi ⟨sm, hy⟩ ⟨rfl, hw⟩
        have e0 : w = vI i := by
          rw [hw]
          show V.int (0 + (i : Int)) = _
          rw [Int.zero_add]
          rfl
        clear hw
        subst e0
        refine ⟨rfl, _, rfl, _, rfl, _, rfl, _, rfl, ln (by show 3 ≤ 100000; decide), fun l hl => ⟨l, _, rfl, .inl (SqL.of upd_same), rfl, rfl, _, rfl, ?_⟩⟩
        have s2 := same_upd (o := .lst [vI x, vI y, vI z]) hl
        rw [besides_snoc]
        rw [inV_three]
        by_cases hin : i ∈ [x, y, z]
        · rw [decide_eq_true hin, if_pos hin, List.append_nil]
          exact iteF ⟨sm.trans s2, s2 _ _ hy⟩
        · rw [decide_eq_false hin, if_neg hin]
          refine iteT ⟨_, rfl, _, s2 _ _ hy, ?_, same_back (sm.trans s2) hD, ?_⟩
          · have := List.length_filter_le (fun w => decide (w ∉ [x, y, z])) (List.range i)
            rw [List.length_range] at this
            rw [List.length_map]
            exact lt_ln (Nat.le_trans this (by omega))
          · rw [upd_same, List.map_append]
            rfl
      · rintro H2 ⟨sm, hy⟩
        have hbl := besides_len hxy hyz hzn
        refine ⟨_, rfl, _, rfl, _, _, rfl, rfl, p, ns, 47, n - 3, ?_, sm _ _ hN9, by omega, by omega, fun r hr0 => ?_⟩
        · show [V.ref p, V.int 47, V.int ((n : Int) - 3)] = _
          rw [show ((n : Int) - 3) = ((n - 3 : Nat) : Int) by omega]
          rfl
        · have hrb : r < (besides n x y z).length := by omega
          have hat := List.getElem?_eq_getElem hrb
          obtain ⟨o1, o2, o3, o4⟩ := besides_at hat
          refine ⟨D, _, _, vI (besides n x y z)[r], rfl, rfl, SqL.of hy, atI_nat (vI_get hat), hNx _ _ ⟨_, ⟨fun e => o2 e.symm, by show x ≠ y; omega, o3, by show x < n; omega, o1, by show y < n; omega⟩, sm, rfl⟩⟩
    rintro σ H10 ⟨o, hd, s90, rfl⟩
    -- a three put in beside
    obtain ⟨xs, hx, hX⟩ := hL9.same s90
    have lX := Paired.length hX
    have lT := LL.short
    refine ⟨_, rfl, _, rfl, _, rfl, _, rfl, _, rfl, ln (by show 3 ≤ 100000; decide), fun u hu => ⟨ln (by show 1 ≤ 100000; decide), fun w hw => ?_⟩⟩
    have s1 := same_upd (o := .tup [vI x, vI o, vI y]) hu
    have s2 := same_upd (o := .lst [.ref u]) hw
    refine ⟨L, w, xs, [.ref u], rfl, rfl, s2 _ _ (s1 _ _ hx), upd_same, ln (by rw [List.length_cons, List.length_nil]; omega), fun m hm => ?_⟩
    have s3 := same_upd (o := .lst (xs ++ [.ref u])) hm
    have s123 := s1.trans (s2.trans s3)
    refine ⟨n, m, T ++ [(x, o, y)], rfl, ⟨by omega, by omega, .inl ⟨_, upd_same, paired_snoc (trs_tups hX (Tups.of s123)) ⟨u, rfl, s3 _ _ (s2 _ _ upd_same)⟩⟩, fun t ht' => ?_, ?_⟩, twice LL.sys.ok ht hd, fun H' _ => k H'⟩
    · rcases List.mem_append.mp ht' with h | h
      · exact okT_dif (LL.sys.ok t h)
      · rw [List.mem_singleton.mp h]
        exact hd
    · have := LL.sub.length_le
      rw [List.length_append, List.length_cons, List.length_nil]
      omega
end
end K30
end

section
set_option Elab.async false
set_option autoImplicit false
set_option linter.all false
set_option maxRecDepth 100000
set_option maxHeartbeats 4000000
namespace K30
open PySem L2
/-! ### what the top has written -/
/-- an error of the class at S is what «except S» names -/
theorem exm_self {K : PySem.W.Frag} {S : Addr} (h1 : PySem.W.subIn K (.ref S) (.type "BaseException") = some true) (h2 : PySem.W.isClsIn K S = true) (h3 : PySem.W.typeIn K (.ref S) = some (.type "type")) (h4 : PySem.W.subIn K (.ref S) (.ref S) = some true) :
    PySem.W.exmOne K (.ref S) (.ref S) = some true := by
  have e1 : (PySem.W.subIn K (.ref S) (.type "BaseException") == some true) = true := by rw [h1] <;> rfl
  have e2 : ((PySem.W.clsIn K S).isSome && PySem.W.typeIn K (.ref S) == some (.type "type")) = true := by
    have h2' : (PySem.W.clsIn K S).isSome = true := h2
    rw [h2', h3] <;> rfl
  show (if (PySem.W.subIn K (.ref S) (.type "BaseException") == some true) = true then (if ((PySem.W.clsIn K S).isSome && PySem.W.typeIn K (.ref S) == some (.type "type")) = true then PySem.W.subIn K (.ref S) (.ref S) else none) else none) = some true
  rw [if_pos e1, if_pos e2]
  exact h4
theorem fund_mk {K : PySem.W.Frag} {x qual : Str} {params : Arguments} {body : List Stmt} {scope : Scope} {f D : Addr} {oc doc pm cdv ct : Value} {od an : Option Addr} {osl : Array (Option Value)} {t : Tok}
    (l : K.lookup f = some ⟨oc, od, .func (PySem.W.fnOf x qual params body scope .none (.ref D) doc pm an cdv ct), osl⟩) (c : PySem.W.codeIn K cdv qual = true) (k : PySem.W.keepIn K (.ref f) = true) (d : PySem.W.nsIn K D "limit" = some (some (.int 20000 t))) :
    FunD K x qual params body scope [] [("limit", vI 20000)] f (PySem.W.fnOf x qual params body scope .none (.ref D) doc pm an cdv ct) :=
  ⟨⟨oc, od, .none, .ref D, doc, pm, an, cdv, ct, osl, rfl, l, c, .inl ⟨rfl, rfl⟩, .inr ⟨D, rfl, fun q hq => by
    rw [List.mem_singleton.mp hq]
    exact ⟨_, d, ⟨_, rfl⟩⟩⟩⟩, k⟩
theorem all_mk {P : Program} {w : World} {K : PySem.W.Frag} {h : Heap} {mg : Str → Option Value} {fa CS CR CI f1 f2 f3 f4 f5 f6 f7 f8 f9 f10 f11 f12 f13 f14 f15 f16 f17 f18 f19 f20 f21 f22 kd22 f23 kd23 f24 kd24 f25 f26 f27 f28 f29 f30 f31 : Addr} (X : K.In h) (G : h.Ns mainGlobals mg) (hfa : mg "law" = some (.ref fa))
    {od1 an1 od2 an2 od3 an3 od4 an4 od5 an5 od6 an6 od7 an7 od8 an8 od9 an9 od10 an10 od11 an11 od12 an12 od13 an13 od14 an14 od15 an15 od16 an16 od17 an17 od18 an18 od19 an19 od20 an20 od21 an21 od22 an22 od23 an23 od24 an24 od25 an25 od26 an26 od27 an27 od28 an28 od29 an29 od30 an30 od31 an31 : Option Addr} {sl1 sl2 sl3 sl4 sl5 sl6 sl7 sl8 sl9 sl10 sl11 sl12 sl13 sl14 sl15 sl16 sl17 sl18 sl19 sl20 sl21 sl22 sl23 sl24 sl25 sl26 sl27 sl28 sl29 sl30 sl31 : Array (Option Value)} {oc1 dc1 pm1 cd1 ct1 kV1 oc2 dc2 pm2 cd2 ct2 kV2 oc3 dc3 pm3 cd3 ct3 kV3 oc4 dc4 pm4 cd4 ct4 kV4 oc5 dc5 pm5 cd5 ct5 kV5 oc6 dc6 pm6 cd6 ct6 kV6 oc7 dc7 pm7 cd7 ct7 kV7 oc8 dc8 pm8 cd8 ct8 kV8 oc9 dc9 pm9 cd9 ct9 kV9 oc10 dc10 pm10 cd10 ct10 kV10 oc11 dc11 pm11 cd11 ct11 kV11 oc12 dc12 pm12 cd12 ct12 kV12 oc13 dc13 pm13 cd13 ct13 kV13 oc14 dc14 pm14 cd14 ct14 kV14 oc15 dc15 pm15 cd15 ct15 kV15 oc16 dc16 pm16 cd16 ct16 kV16 oc17 dc17 pm17 cd17 ct17 kV17 oc18 dc18 pm18 cd18 ct18 kV18 oc19 dc19 pm19 cd19 ct19 kV19 oc20 dc20 pm20 cd20 ct20 kV20 oc21 dc21 pm21 cd21 ct21 kV21 oc22 dc22 pm22 cd22 ct22 oc23 dc23 pm23 cd23 ct23 oc24 dc24 pm24 cd24 ct24 oc25 dc25 pm25 cd25 ct25 kV25 oc26 dc26 pm26 cd26 ct26 kV26 oc27 dc27 pm27 cd27 ct27 kV27 oc28 dc28 pm28 cd28 ct28 kV28 oc29 dc29 pm29 cd29 ct29 kV29 oc30 dc30 pm30 cd30 ct30 kV30 oc31 dc31 pm31 cd31 ct31 kV31 : Value} {tm tk22 tk23 tk24 : Tok}
    (a1 : PySem.W.nsIn K mainGlobals "check_count" = some (some (.ref f1)))
    (l1 : K.lookup f1 = some ⟨oc1, od1, .func (PySem.W.fnOf "check_count" "check_count" (defArgs sCheck) (defBody sCheck) (defScope sCheck) .none kV1 dc1 pm1 an1 cd1 ct1), sl1⟩)
    (c1 : PySem.W.codeIn K cd1 "check_count" = true)
    (k1 : PySem.W.keepIn K (.ref f1) = true)
    (a2 : PySem.W.nsIn K mainGlobals "pairs_of" = some (some (.ref f2)))
    (l2 : K.lookup f2 = some ⟨oc2, od2, .func (PySem.W.fnOf "pairs_of" "pairs_of" (defArgs sPairs) (defBody sPairs) (defScope sPairs) .none kV2 dc2 pm2 an2 cd2 ct2), sl2⟩)
    (c2 : PySem.W.codeIn K cd2 "pairs_of" = true)
    (k2 : PySem.W.keepIn K (.ref f2) = true)
    (a3 : PySem.W.nsIn K mainGlobals "plain_threes" = some (some (.ref f3)))
    (l3 : K.lookup f3 = some ⟨oc3, od3, .func (PySem.W.fnOf "plain_threes" "plain_threes" (defArgs sPlain) (defBody sPlain) (defScope sPlain) .none kV3 dc3 pm3 an3 cd3 ct3), sl3⟩)
    (c3 : PySem.W.codeIn K cd3 "plain_threes" = true)
    (k3 : PySem.W.keepIn K (.ref f3) = true)
    (a4 : PySem.W.nsIn K mainGlobals "held_pairs" = some (some (.ref f4)))
    (l4 : K.lookup f4 = some ⟨oc4, od4, .func (PySem.W.fnOf "held_pairs" "held_pairs" (defArgs sHeld) (defBody sHeld) (defScope sHeld) .none kV4 dc4 pm4 an4 cd4 ct4), sl4⟩)
    (c4 : PySem.W.codeIn K cd4 "held_pairs" = true)
    (k4 : PySem.W.keepIn K (.ref f4) = true)
    (a5 : PySem.W.nsIn K mainGlobals "kept_threes" = some (some (.ref f5)))
    (l5 : K.lookup f5 = some ⟨oc5, od5, .func (PySem.W.fnOf "kept_threes" "kept_threes" (defArgs sKept) (defBody sKept) (defScope sKept) .none kV5 dc5 pm5 an5 cd5 ct5), sl5⟩)
    (c5 : PySem.W.codeIn K cd5 "kept_threes" = true)
    (k5 : PySem.W.keepIn K (.ref f5) = true)
    (a6 : PySem.W.nsIn K mainGlobals "all_pairs" = some (some (.ref f6)))
    (l6 : K.lookup f6 = some ⟨oc6, od6, .func (PySem.W.fnOf "all_pairs" "all_pairs" (defArgs sAll) (defBody sAll) (defScope sAll) .none kV6 dc6 pm6 an6 cd6 ct6), sl6⟩)
    (c6 : PySem.W.codeIn K cd6 "all_pairs" = true)
    (k6 : PySem.W.keepIn K (.ref f6) = true)
    (a7 : PySem.W.nsIn K mainGlobals "first_fault" = some (some (.ref f7)))
    (l7 : K.lookup f7 = some ⟨oc7, od7, .func (PySem.W.fnOf "first_fault" "first_fault" (defArgs sFault) (defBody sFault) (defScope sFault) .none kV7 dc7 pm7 an7 cd7 ct7), sl7⟩)
    (c7 : PySem.W.codeIn K cd7 "first_fault" = true)
    (k7 : PySem.W.keepIn K (.ref f7) = true)
    (a8 : PySem.W.nsIn K mainGlobals "is_whole" = some (some (.ref f8)))
    (l8 : K.lookup f8 = some ⟨oc8, od8, .func (PySem.W.fnOf "is_whole" "is_whole" (defArgs sWhole) (defBody sWhole) (defScope sWhole) .none kV8 dc8 pm8 an8 cd8 ct8), sl8⟩)
    (c8 : PySem.W.codeIn K cd8 "is_whole" = true)
    (k8 : PySem.W.keepIn K (.ref f8) = true)
    (a9 : PySem.W.nsIn K mainGlobals "open_of" = some (some (.ref f9)))
    (l9 : K.lookup f9 = some ⟨oc9, od9, .func (PySem.W.fnOf "open_of" "open_of" (defArgs sOpen) (defBody sOpen) (defScope sOpen) .none kV9 dc9 pm9 an9 cd9 ct9), sl9⟩)
    (c9 : PySem.W.codeIn K cd9 "open_of" = true)
    (k9 : PySem.W.keepIn K (.ref f9) = true)
    (a10 : PySem.W.nsIn K mainGlobals "open_pairs" = some (some (.ref f10)))
    (l10 : K.lookup f10 = some ⟨oc10, od10, .func (PySem.W.fnOf "open_pairs" "open_pairs" (defArgs sOpairs) (defBody sOpairs) (defScope sOpairs) .none kV10 dc10 pm10 an10 cd10 ct10), sl10⟩)
    (c10 : PySem.W.codeIn K cd10 "open_pairs" = true)
    (k10 : PySem.W.keepIn K (.ref f10) = true)
    (a11 : PySem.W.nsIn K mainGlobals "thirds_of" = some (some (.ref f11)))
    (l11 : K.lookup f11 = some ⟨oc11, od11, .func (PySem.W.fnOf "thirds_of" "thirds_of" (defArgs sThirds) (defBody sThirds) (defScope sThirds) .none kV11 dc11 pm11 an11 cd11 ct11), sl11⟩)
    (c11 : PySem.W.codeIn K cd11 "thirds_of" = true)
    (k11 : PySem.W.keepIn K (.ref f11) = true)
    (a12 : PySem.W.nsIn K mainGlobals "odd_point" = some (some (.ref f12)))
    (l12 : K.lookup f12 = some ⟨oc12, od12, .func (PySem.W.fnOf "odd_point" "odd_point" (defArgs sOdd) (defBody sOdd) (defScope sOdd) .none kV12 dc12 pm12 an12 cd12 ct12), sl12⟩)
    (c12 : PySem.W.codeIn K cd12 "odd_point" = true)
    (k12 : PySem.W.keepIn K (.ref f12) = true)
    (a13 : PySem.W.nsIn K mainGlobals "is_completion" = some (some (.ref f13)))
    (l13 : K.lookup f13 = some ⟨oc13, od13, .func (PySem.W.fnOf "is_completion" "is_completion" (defArgs sIsComp) (defBody sIsComp) (defScope sIsComp) .none kV13 dc13 pm13 an13 cd13 ct13), sl13⟩)
    (c13 : PySem.W.codeIn K cd13 "is_completion" = true)
    (k13 : PySem.W.keepIn K (.ref f13) = true)
    (a14 : PySem.W.nsIn K mainGlobals "_law_row" = some (some (.ref f14)))
    (l14 : K.lookup f14 = some ⟨oc14, od14, .func (PySem.W.fnOf "_law_row" "_law_row" (defArgs sRow) (defBody sRow) (defScope sRow) .none kV14 dc14 pm14 an14 cd14 ct14), sl14⟩)
    (c14 : PySem.W.codeIn K cd14 "_law_row" = true)
    (k14 : PySem.W.keepIn K (.ref f14) = true)
    (a15 : PySem.W.nsIn K mainGlobals "_law_numbers" = some (some (.ref f15)))
    (l15 : K.lookup f15 = some ⟨oc15, od15, .func (PySem.W.fnOf "_law_numbers" "_law_numbers" (defArgs sNumbers) (defBody sNumbers) (defScope sNumbers) .none kV15 dc15 pm15 an15 cd15 ct15), sl15⟩)
    (c15 : PySem.W.codeIn K cd15 "_law_numbers" = true)
    (k15 : PySem.W.keepIn K (.ref f15) = true)
    (a16 : PySem.W.nsIn K mainGlobals "_law_pick" = some (some (.ref f16)))
    (l16 : K.lookup f16 = some ⟨oc16, od16, .func (PySem.W.fnOf "_law_pick" "_law_pick" (defArgs sPick) (defBody sPick) (defScope sPick) .none kV16 dc16 pm16 an16 cd16 ct16), sl16⟩)
    (c16 : PySem.W.codeIn K cd16 "_law_pick" = true)
    (k16 : PySem.W.keepIn K (.ref f16) = true)
    (a17 : PySem.W.nsIn K mainGlobals "_law_listed" = some (some (.ref f17)))
    (l17 : K.lookup f17 = some ⟨oc17, od17, .func (PySem.W.fnOf "_law_listed" "_law_listed" (defArgs sListed) (defBody sListed) (defScope sListed) .none kV17 dc17 pm17 an17 cd17 ct17), sl17⟩)
    (c17 : PySem.W.codeIn K cd17 "_law_listed" = true)
    (k17 : PySem.W.keepIn K (.ref f17) = true)
    (a18 : PySem.W.nsIn K mainGlobals "_law_renamed" = some (some (.ref f18)))
    (l18 : K.lookup f18 = some ⟨oc18, od18, .func (PySem.W.fnOf "_law_renamed" "_law_renamed" (defArgs sRenamed) (defBody sRenamed) (defScope sRenamed) .none kV18 dc18 pm18 an18 cd18 ct18), sl18⟩)
    (c18 : PySem.W.codeIn K cd18 "_law_renamed" = true)
    (k18 : PySem.W.keepIn K (.ref f18) = true)
    (a19 : PySem.W.nsIn K mainGlobals "_law_threes" = some (some (.ref f19)))
    (l19 : K.lookup f19 = some ⟨oc19, od19, .func (PySem.W.fnOf "_law_threes" "_law_threes" (defArgs sThrees) (defBody sThrees) (defScope sThrees) .none kV19 dc19 pm19 an19 cd19 ct19), sl19⟩)
    (c19 : PySem.W.codeIn K cd19 "_law_threes" = true)
    (k19 : PySem.W.keepIn K (.ref f19) = true)
    (a20 : PySem.W.nsIn K mainGlobals "_law_refuses" = some (some (.ref f20)))
    (l20 : K.lookup f20 = some ⟨oc20, od20, .func (PySem.W.fnOf "_law_refuses" "_law_refuses" (defArgs sRefuses) (defBody sRefuses) (defScope sRefuses) .none kV20 dc20 pm20 an20 cd20 ct20), sl20⟩)
    (c20 : PySem.W.codeIn K cd20 "_law_refuses" = true)
    (k20 : PySem.W.keepIn K (.ref f20) = true)
    (a21 : PySem.W.nsIn K mainGlobals "law" = some (some (.ref f21)))
    (l21 : K.lookup f21 = some ⟨oc21, od21, .func (PySem.W.fnOf "law" "law" (defArgs sLaw) (defBody sLaw) (defScope sLaw) .none kV21 dc21 pm21 an21 cd21 ct21), sl21⟩)
    (c21 : PySem.W.codeIn K cd21 "law" = true)
    (k21 : PySem.W.keepIn K (.ref f21) = true)
    (a22 : PySem.W.nsIn K mainGlobals "complete" = some (some (.ref f22)))
    (l22 : K.lookup f22 = some ⟨oc22, od22, .func (PySem.W.fnOf "complete" "complete" (defArgs sComplete) (defBody sComplete) (defScope sComplete) .none (.ref kd22) dc22 pm22 an22 cd22 ct22), sl22⟩)
    (c22 : PySem.W.codeIn K cd22 "complete" = true)
    (k22 : PySem.W.keepIn K (.ref f22) = true)
    (d22 : PySem.W.nsIn K kd22 "limit" = some (some (.int 20000 tk22)))
    (a23 : PySem.W.nsIn K mainGlobals "completion_count" = some (some (.ref f23)))
    (l23 : K.lookup f23 = some ⟨oc23, od23, .func (PySem.W.fnOf "completion_count" "completion_count" (defArgs sCount) (defBody sCount) (defScope sCount) .none (.ref kd23) dc23 pm23 an23 cd23 ct23), sl23⟩)
    (c23 : PySem.W.codeIn K cd23 "completion_count" = true)
    (k23 : PySem.W.keepIn K (.ref f23) = true)
    (d23 : PySem.W.nsIn K kd23 "limit" = some (some (.int 20000 tk23)))
    (a24 : PySem.W.nsIn K mainGlobals "none_paper" = some (some (.ref f24)))
    (l24 : K.lookup f24 = some ⟨oc24, od24, .func (PySem.W.fnOf "none_paper" "none_paper" (defArgs sNone) (defBody sNone) (defScope sNone) .none (.ref kd24) dc24 pm24 an24 cd24 ct24), sl24⟩)
    (c24 : PySem.W.codeIn K cd24 "none_paper" = true)
    (k24 : PySem.W.keepIn K (.ref f24) = true)
    (d24 : PySem.W.nsIn K kd24 "limit" = some (some (.int 20000 tk24)))
    (aCS : PySem.W.nsIn K mainGlobals "Search" = some (some (.ref CS)))
    (pgS : PySem.W.plainGet K CS Str.empty = true)
    (hdS : PySem.W.hasDictIn K CS = true)
    (poS : PySem.W.plainOver K CS = true)
    (saS : PySem.W.findIn K (.ref CS) "__setattr__" = some (some (.builtin "object.__setattr__")))
    (mkS : PySem.W.makesIn K CS = true)
    (kcS : PySem.W.keepIn K (.ref CS) = true)
    (nS1 : PySem.W.findIn K (.ref CS) "count" = some none)
    (nS2 : PySem.W.findIn K (.ref CS) "limit" = some none)
    (nS3 : PySem.W.findIn K (.ref CS) "threes" = some none)
    (nS4 : PySem.W.findIn K (.ref CS) "held" = some none)
    (nS5 : PySem.W.findIn K (.ref CS) "tried" = some none)
    (nS6 : PySem.W.findIn K (.ref CS) "whole" = some none)
    (aCR : PySem.W.nsIn K mainGlobals "Refusal" = some (some (.ref CR)))
    (pgR : PySem.W.plainGet K CR Str.empty = true)
    (hdR : PySem.W.hasDictIn K CR = true)
    (poR : PySem.W.plainOver K CR = true)
    (saR : PySem.W.findIn K (.ref CR) "__setattr__" = some (some (.builtin "object.__setattr__")))
    (mkR : PySem.W.makesIn K CR = true)
    (kcR : PySem.W.keepIn K (.ref CR) = true)
    (nR1 : PySem.W.findIn K (.ref CR) "count" = some none)
    (nR2 : PySem.W.findIn K (.ref CR) "limit" = some none)
    (nR3 : PySem.W.findIn K (.ref CR) "held" = some none)
    (nR4 : PySem.W.findIn K (.ref CR) "pairs" = some none)
    (a25 : PySem.W.findIn K (.ref CS) "__init__" = some (some (.ref f25)))
    (i25 : PySem.W.isFn K (.ref f25) = true)
    (l25 : K.lookup f25 = some ⟨oc25, od25, .func (PySem.W.fnOf "__init__" "Search.__init__" (defArgs sSInit) (defBody sSInit) (defScope sSInit) .none kV25 dc25 pm25 an25 cd25 ct25), sl25⟩)
    (c25 : PySem.W.codeIn K cd25 "Search.__init__" = true)
    (k25 : PySem.W.keepIn K (.ref f25) = true)
    (a26 : PySem.W.findIn K (.ref CS) "put" = some (some (.ref f26)))
    (i26 : PySem.W.isFn K (.ref f26) = true)
    (l26 : K.lookup f26 = some ⟨oc26, od26, .func (PySem.W.fnOf "put" "Search.put" (defArgs sPut) (defBody sPut) (defScope sPut) .none kV26 dc26 pm26 an26 cd26 ct26), sl26⟩)
    (c26 : PySem.W.codeIn K cd26 "Search.put" = true)
    (k26 : PySem.W.keepIn K (.ref f26) = true)
    (a27 : PySem.W.findIn K (.ref CS) "take" = some (some (.ref f27)))
    (i27 : PySem.W.isFn K (.ref f27) = true)
    (l27 : K.lookup f27 = some ⟨oc27, od27, .func (PySem.W.fnOf "take" "Search.take" (defArgs sTake) (defBody sTake) (defScope sTake) .none kV27 dc27 pm27 an27 cd27 ct27), sl27⟩)
    (c27 : PySem.W.codeIn K cd27 "Search.take" = true)
    (k27 : PySem.W.keepIn K (.ref f27) = true)
    (a28 : PySem.W.findIn K (.ref CS) "run" = some (some (.ref f28)))
    (i28 : PySem.W.isFn K (.ref f28) = true)
    (l28 : K.lookup f28 = some ⟨oc28, od28, .func (PySem.W.fnOf "run" "Search.run" (defArgs sRun) (defBody sRun) (defScope sRun) .none kV28 dc28 pm28 an28 cd28 ct28), sl28⟩)
    (c28 : PySem.W.codeIn K cd28 "Search.run" = true)
    (k28 : PySem.W.keepIn K (.ref f28) = true)
    (a29 : PySem.W.findIn K (.ref CR) "__init__" = some (some (.ref f29)))
    (i29 : PySem.W.isFn K (.ref f29) = true)
    (l29 : K.lookup f29 = some ⟨oc29, od29, .func (PySem.W.fnOf "__init__" "Refusal.__init__" (defArgs sRInit) (defBody sRInit) (defScope sRInit) .none kV29 dc29 pm29 an29 cd29 ct29), sl29⟩)
    (c29 : PySem.W.codeIn K cd29 "Refusal.__init__" = true)
    (k29 : PySem.W.keepIn K (.ref f29) = true)
    (a30 : PySem.W.findIn K (.ref CR) "best_pair" = some (some (.ref f30)))
    (i30 : PySem.W.isFn K (.ref f30) = true)
    (l30 : K.lookup f30 = some ⟨oc30, od30, .func (PySem.W.fnOf "best_pair" "Refusal.best_pair" (defArgs sBest) (defBody sBest) (defScope sBest) .none kV30 dc30 pm30 an30 cd30 ct30), sl30⟩)
    (c30 : PySem.W.codeIn K cd30 "Refusal.best_pair" = true)
    (k30 : PySem.W.keepIn K (.ref f30) = true)
    (a31 : PySem.W.findIn K (.ref CR) "refuse" = some (some (.ref f31)))
    (i31 : PySem.W.isFn K (.ref f31) = true)
    (l31 : K.lookup f31 = some ⟨oc31, od31, .func (PySem.W.fnOf "refuse" "Refusal.refuse" (defArgs sRefuse) (defBody sRefuse) (defScope sRefuse) .none kV31 dc31 pm31 an31 cd31 ct31), sl31⟩)
    (c31 : PySem.W.codeIn K cd31 "Refusal.refuse" = true)
    (k31 : PySem.W.keepIn K (.ref f31) = true)
    (aI : PySem.W.nsIn K mainGlobals "InvalidSystem" = some (some (.ref CI)))
    (xI : PySem.W.excIn K CI [.type "ValueError", .type "Exception", .type "BaseException", .type "object"] "ValueError.__new__" = true)
    (kI : PySem.W.keepIn K (.ref CI) = true)
    (bI : PySem.W.subIn K (.ref CI) (.type "BaseException") = some true)
    (tI : PySem.W.typeIn K (.ref CI) = some (.type "type"))
    (iI : PySem.W.isClsIn K CI = true)
    (sI : PySem.W.subIn K (.ref CI) (.ref CI) = some true)
    (mM : PySem.W.nsIn K mainGlobals "MOST_POINTS" = some (some (.int 60 tm)))
    (z_tuple : PySem.W.nsIn K mainGlobals "tuple" = some none)
    (z_sorted : PySem.W.nsIn K mainGlobals "sorted" = some none)
    (z_len : PySem.W.nsIn K mainGlobals "len" = some none)
    (z_any : PySem.W.nsIn K mainGlobals "any" = some none)
    (z_all : PySem.W.nsIn K mainGlobals "all" = some none)
    (z_range : PySem.W.nsIn K mainGlobals "range" = some none)
    (z_min : PySem.W.nsIn K mainGlobals "min" = some none)
    (z_max : PySem.W.nsIn K mainGlobals "max" = some none)
    (z_enumerate : PySem.W.nsIn K mainGlobals "enumerate" = some none)
    (z_abs : PySem.W.nsIn K mainGlobals "abs" = some none)
    (z_int : PySem.W.nsIn K mainGlobals "int" = some none)
    (z_list : PySem.W.nsIn K mainGlobals "list" = some none)
    : ∃ fd : FuncData, (∀ (s : Shared) (u : Value), BindsTo s fd ⟨[u], []⟩ [("_law_script", u)]) ∧ ∀ base : Heap, K.In base → base.Ns mainGlobals mg → FnOk P w K mg base CX0 11 fa fd ["_law_script"] (spLaw K) := by
  have e := hfa.symm.trans (PySem.W.mg_of X G a21)
  cases e
  have Z_tuple := PySem.W.mg_none_of X G z_tuple
  have Z_sorted := PySem.W.mg_none_of X G z_sorted
  have Z_len := PySem.W.mg_none_of X G z_len
  have Z_any := PySem.W.mg_none_of X G z_any
  have Z_all := PySem.W.mg_none_of X G z_all
  have Z_range := PySem.W.mg_none_of X G z_range
  have Z_min := PySem.W.mg_none_of X G z_min
  have Z_max := PySem.W.mg_none_of X G z_max
  have Z_enumerate := PySem.W.mg_none_of X G z_enumerate
  have Z_abs := PySem.W.mg_none_of X G z_abs
  have Z_int := PySem.W.mg_none_of X G z_int
  have Z_list := PySem.W.mg_none_of X G z_list
  have F1 := fun_mk (st := sCheck) l1 c1 k1
  have B1 := F1.binds (ps := ["count"]) fun _ _ _ _ _ _ us hl => match us, hl with | [_], _ => rfl
  have F2 := fun_mk (st := sPairs) l2 c2 k2
  have B2 := F2.binds (ps := ["three"]) fun _ _ _ _ _ _ us hl => match us, hl with | [_], _ => rfl
  have F3 := fun_mk (st := sPlain) l3 c3 k3
  have B3 := F3.binds (ps := ["count", "threes"]) fun _ _ _ _ _ _ us hl => match us, hl with | [_, _], _ => rfl
  have F4 := fun_mk (st := sHeld) l4 c4 k4
  have B4 := F4.binds (ps := ["threes"]) fun _ _ _ _ _ _ us hl => match us, hl with | [_], _ => rfl
  have F5 := fun_mk (st := sKept) l5 c5 k5
  have B5 := F5.binds (ps := ["count", "threes"]) fun _ _ _ _ _ _ us hl => match us, hl with | [_, _], _ => rfl
  have F6 := fun_mk (st := sAll) l6 c6 k6
  have B6 := F6.binds (ps := ["count"]) fun _ _ _ _ _ _ us hl => match us, hl with | [_], _ => rfl
  have F7 := fun_mk (st := sFault) l7 c7 k7
  have B7 := F7.binds (ps := ["count", "threes"]) fun _ _ _ _ _ _ us hl => match us, hl with | [_, _], _ => rfl
  have F8 := fun_mk (st := sWhole) l8 c8 k8
  have B8 := F8.binds (ps := ["count", "threes"]) fun _ _ _ _ _ _ us hl => match us, hl with | [_, _], _ => rfl
  have F9 := fun_mk (st := sOpen) l9 c9 k9
  have B9 := F9.binds (ps := ["count", "held"]) fun _ _ _ _ _ _ us hl => match us, hl with | [_, _], _ => rfl
  have F10 := fun_mk (st := sOpairs) l10 c10 k10
  have B10 := F10.binds (ps := ["count", "threes"]) fun _ _ _ _ _ _ us hl => match us, hl with | [_, _], _ => rfl
  have F11 := fun_mk (st := sThirds) l11 c11 k11
  have B11 := F11.binds (ps := ["count", "held", "pair"]) fun _ _ _ _ _ _ us hl => match us, hl with | [_, _, _], _ => rfl
  have F12 := fun_mk (st := sOdd) l12 c12 k12
  have B12 := F12.binds (ps := ["count", "threes"]) fun _ _ _ _ _ _ us hl => match us, hl with | [_, _], _ => rfl
  have F13 := fun_mk (st := sIsComp) l13 c13 k13
  have B13 := F13.binds (ps := ["count", "threes", "whole"]) fun _ _ _ _ _ _ us hl => match us, hl with | [_, _, _], _ => rfl
  have F14 := fun_mk (st := sRow) l14 c14 k14
  have B14 := F14.binds (ps := ["_law_cell", "_law_many"]) fun _ _ _ _ _ _ us hl => match us, hl with | [_, _], _ => rfl
  have F15 := fun_mk (st := sNumbers) l15 c15 k15
  have B15 := F15.binds (ps := ["_law_script", "_law_many"]) fun _ _ _ _ _ _ us hl => match us, hl with | [_, _], _ => rfl
  have F16 := fun_mk (st := sPick) l16 c16 k16
  have B16 := F16.binds (ps := ["_law_numbers_here", "_law_at", "_law_most"]) fun _ _ _ _ _ _ us hl => match us, hl with | [_, _, _], _ => rfl
  have F17 := fun_mk (st := sListed) l17 c17 k17
  have B17 := F17.binds (ps := ["_law_number"]) fun _ _ _ _ _ _ us hl => match us, hl with | [_], _ => rfl
  have F18 := fun_mk (st := sRenamed) l18 c18 k18
  have B18 := F18.binds (ps := ["_law_listed_here", "_law_numbers_here", "_law_at"]) fun _ _ _ _ _ _ us hl => match us, hl with | [_, _, _], _ => rfl
  have F19 := fun_mk (st := sThrees) l19 c19 k19
  have B19 := F19.binds (ps := ["_law_tree"]) fun _ _ _ _ _ _ us hl => match us, hl with | [_], _ => rfl
  have F20 := fun_mk (st := sRefuses) l20 c20 k20
  have B20 := F20.binds (ps := ["_law_count", "_law_threes_here"]) fun _ _ _ _ _ _ us hl => match us, hl with | [_, _], _ => rfl
  have F21 := fun_mk (st := sLaw) l21 c21 k21
  have B21 := F21.binds (ps := ["_law_script"]) fun _ _ _ _ _ _ us hl => match us, hl with | [_], _ => rfl
  have F25 := fun_mk (st := sSInit) l25 c25 k25
  have B25 := F25.binds (ps := ["self", "count", "threes", "limit"]) fun _ _ _ _ _ _ us hl => match us, hl with | [_, _, _, _], _ => rfl
  have F26 := fun_mk (st := sPut) l26 c26 k26
  have B26 := F26.binds (ps := ["self", "three"]) fun _ _ _ _ _ _ us hl => match us, hl with | [_, _], _ => rfl
  have F27 := fun_mk (st := sTake) l27 c27 k27
  have B27 := F27.binds (ps := ["self", "three"]) fun _ _ _ _ _ _ us hl => match us, hl with | [_, _], _ => rfl
  have F28 := fun_mk (st := sRun) l28 c28 k28
  have B28 := F28.binds (ps := ["self", "most"]) fun _ _ _ _ _ _ us hl => match us, hl with | [_, _], _ => rfl
  have F29 := fun_mk (st := sRInit) l29 c29 k29
  have B29 := F29.binds (ps := ["self", "count", "threes", "limit"]) fun _ _ _ _ _ _ us hl => match us, hl with | [_, _, _, _], _ => rfl
  have F30 := fun_mk (st := sBest) l30 c30 k30
  have B30 := F30.binds (ps := ["self"]) fun _ _ _ _ _ _ us hl => match us, hl with | [_], _ => rfl
  have F31 := fun_mk (st := sRefuse) l31 c31 k31
  have B31 := F31.binds (ps := ["self"]) fun _ _ _ _ _ _ us hl => match us, hl with | [_], _ => rfl
  have F22 : FunD K "complete" "complete" (defArgs sComplete) (defBody sComplete) (defScope sComplete) [] [("limit", vI 20000)] f22 _ := fund_mk l22 c22 k22 d22
  have B22 := F22.binds0 (ps := ["count", "threes", "limit"]) 2 (by simp) rfl fun D _ _ _ _ _ us ks h1 h2 => match us, ks, h1, h2 with | [_, _], [_], _, _ => ⟨_, _, _, _, _, _, rfl, rfl, rfl⟩
  have F23 : FunD K "completion_count" "completion_count" (defArgs sCount) (defBody sCount) (defScope sCount) [] [("limit", vI 20000)] f23 _ := fund_mk l23 c23 k23 d23
  have B23 := F23.binds0 (ps := ["count", "threes", "limit"]) 2 (by simp) rfl fun D _ _ _ _ _ us ks h1 h2 => match us, ks, h1, h2 with | [_, _], [_], _, _ => ⟨_, _, _, _, _, _, rfl, rfl, rfl⟩
  have F24 : FunD K "none_paper" "none_paper" (defArgs sNone) (defBody sNone) (defScope sNone) [] [("limit", vI 20000)] f24 _ := fund_mk l24 c24 k24 d24
  have B24 := F24.binds0 (ps := ["count", "threes", "limit"]) 2 (by simp) rfl fun D _ _ _ _ _ us ks h1 h2 => match us, ks, h1, h2 with | [_, _], [_], _, _ => ⟨_, _, _, _, _, _, rfl, rfl, rfl⟩
  have eT : ErrT K mg CI := ⟨xI, PySem.W.mg_of X G aI, kI, bI, tI, iI, sI⟩
  have TS : ClsS K CS := ⟨⟨pgS, hdS, poS, saS⟩, nS1, nS2, nS3, nS4, nS5, nS6⟩
  have TR : ClsR K CR := ⟨⟨pgR, hdR, poR, saR⟩, nR1, nR2, nR3, nR4⟩
  have MKS : Mk K CS f25 := ⟨mkS, a25, i25, kcS⟩
  have ME26 : Meth K CS "put" f26 := ⟨a26, i26, k26⟩
  have ME27 : Meth K CS "take" f27 := ⟨a27, i27, k27⟩
  have ME28 : Meth K CS "run" f28 := ⟨a28, i28, k28⟩
  have MKR : Mk K CR f29 := ⟨mkR, a29, i29, kcR⟩
  have ME30 : Meth K CR "best_pair" f30 := ⟨a30, i30, k30⟩
  have ME31 : Meth K CR "refuse" f31 := ⟨a31, i31, k31⟩
  obtain ⟨ds22, V22, BB22⟩ := B22
  obtain ⟨ds23, V23, BB23⟩ := B23
  obtain ⟨ds24, V24, BB24⟩ := B24
  refine ⟨PySem.W.fnOf "law" "law" (defArgs sLaw) (defBody sLaw) (defScope sLaw) .none kV21 dc21 pm21 an21 cd21 ct21, fun s v => .of_eq rfl, fun base _ _ => ?_⟩
  have C1 : Cal P w K mg base 1 "check_count" (spCheck) [] := ⟨_, _, _, _, ⟨ok_check F1 (PySem.W.mg_of X G mM), PySem.W.mg_of X G a1⟩, ⟨k1, B1⟩, .nil⟩
  have C2 : Cal P w K mg base 1 "pairs_of" (spPairs) [] := ⟨_, _, _, _, ⟨ok_pairs F2, PySem.W.mg_of X G a2⟩, ⟨k2, B2⟩, .nil⟩
  have C3 : Cal P w K mg base 2 "plain_threes" (spPlain) [] := ⟨_, _, _, _, ⟨ok_plain F3 C1 Z_tuple Z_sorted Z_len, PySem.W.mg_of X G a3⟩, ⟨k3, B3⟩, .nil⟩
  have C4 : Cal P w K mg base 2 "held_pairs" (spHeld) [] := ⟨_, _, _, _, ⟨ok_held F4 C2, PySem.W.mg_of X G a4⟩, ⟨k4, B4⟩, .nil⟩
  have C5 : Cal P w K mg base 3 "kept_threes" (spKept) [] := ⟨_, _, _, _, ⟨ok_kept F5 C3 C4 Z_any, PySem.W.mg_of X G a5⟩, ⟨k5, B5⟩, .nil⟩
  have KX3 := ok_keptX (P := P) (w := w) (base := base) F5 eT C3 C4 Z_any
  have C6 : Cal P w K mg base 1 "all_pairs" (spAll) [] := ⟨_, _, _, _, ⟨ok_all F6 Z_range, PySem.W.mg_of X G a6⟩, ⟨k6, B6⟩, .nil⟩
  have C9 : Cal P w K mg base 2 "open_of" (spOpen) [] := ⟨_, _, _, _, ⟨ok_open F9 C6, PySem.W.mg_of X G a9⟩, ⟨k9, B9⟩, .nil⟩
  have C10 : Cal P w K mg base 4 "open_pairs" (spOpairs) [] := ⟨_, _, _, _, ⟨ok_opairs F10 C9 C4 C5, PySem.W.mg_of X G a10⟩, ⟨k10, B10⟩, .nil⟩
  have C11 : Cal P w K mg base 1 "thirds_of" (spThirds) [] := ⟨_, _, _, _, ⟨ok_thirds F11 Z_range Z_min Z_max, PySem.W.mg_of X G a11⟩, ⟨k11, B11⟩, .nil⟩
  have C7 : Cal P w K mg base 3 "first_fault" (spFault) [] := ⟨_, _, _, _, ⟨ok_fault F7 C9 C4 C3, PySem.W.mg_of X G a7⟩, ⟨k7, B7⟩, .nil⟩
  have C8 : Cal P w K mg base 4 "is_whole" (spWhole) [] := ⟨_, _, _, _, ⟨ok_whole F8 C7, PySem.W.mg_of X G a8⟩, ⟨k8, B8⟩, .nil⟩
  have C12 : Cal P w K mg base 5 "odd_point" (spOdd) [] := ⟨_, _, _, _, ⟨ok_odd F12 C10 Z_enumerate, PySem.W.mg_of X G a12⟩, ⟨k12, B12⟩, .nil⟩
  have C13 : Cal P w K mg base 5 "is_completion" (spIsComp) [] := ⟨_, _, _, _, ⟨ok_iscomp F13 C5 C3 C8 Z_all, PySem.W.mg_of X G a13⟩, ⟨k13, B13⟩, .nil⟩
  have MS : Mak P w K mg base CX0 4 "Search" CS (spSInit CS) := ⟨_, _, _, ⟨ok_sinit F25 TS C5 C4, MKS⟩, ⟨PySem.W.mg_of X G aCS, B25⟩⟩
  have MSX : Mak P w K mg base (L2.CX P w) 4 "Search" CS (spSInitX CS CI) := ⟨_, _, _, ⟨ok_sinitX F25 TS KX3 (PySem.W.mg_of X G a5) k5 B5, MKS⟩, ⟨PySem.W.mg_of X G aCS, B25⟩⟩
  have MR : Mak P w K mg base CX0 4 "Refusal" CR (spRInit CR) := ⟨_, _, _, ⟨ok_rinit F29 TR C5 C4, MKR⟩, ⟨PySem.W.mg_of X G aCR, B29⟩⟩
  have Mput : MCal P w K mg base 2 CS "put" (spPut CS) := ⟨_, _, _, ⟨ok_put F26 TS C2, ME26⟩, ⟨TS.cl, B26⟩⟩
  have Mtake : MCal P w K mg base 2 CS "take" (spTake CS) := ⟨_, _, _, ⟨ok_take F27 TS C2, ME27⟩, ⟨TS.cl, B27⟩⟩
  have Mrun : MCal P w K mg base 8 CS "run" (spRun CS 5) := ⟨_, _, _, ⟨ok_run F28 TS ME28 B28 C9 C11 Mput Mtake Z_len Z_sorted Z_tuple 5, ME28⟩, ⟨TS.cl, B28⟩⟩
  have Mbest : MCal P w K mg base 3 CR "best_pair" (spBest CR) := ⟨_, _, _, ⟨ok_best F30 TR C9 C11 Z_len, ME30⟩, ⟨TR.cl, B30⟩⟩
  have Mref : MCal P w K mg base 9 CR "refuse" (spRef CR 5) := ⟨_, _, _, ⟨ok_ref F31 TR ME31 B31 C11 C2 Mbest Z_len Z_sorted Z_tuple 5, ME31⟩, ⟨TR.cl, B31⟩⟩
  have C22 : Cal P w K mg base 9 "complete" (spComp) [vI 20000] := ⟨_, _, _, _, ⟨ok_comp F22 TS MS Mrun, PySem.W.mg_of X G a22⟩, ⟨k22, BB22⟩, V22⟩
  have CXc : CalX P w K mg base 9 "complete" (spCompX CI) [vI 20000] := ⟨_, _, _, _, ⟨ok_compX F22 MSX, PySem.W.mg_of X G a22⟩, ⟨k22, BB22⟩, V22⟩
  have C23 : Cal P w K mg base 9 "completion_count" (spCnt) [vI 20000] := ⟨_, _, _, _, ⟨ok_cnt F23 TS MS Mrun Z_len, PySem.W.mg_of X G a23⟩, ⟨k23, BB23⟩, V23⟩
  have C24 : Cal P w K mg base 10 "none_paper" (spNone) [vI 20000] := ⟨_, _, _, _, ⟨ok_none F24 MR Mref, PySem.W.mg_of X G a24⟩, ⟨k24, BB24⟩, V24⟩
  have C14 : Cal P w K mg base 1 "_law_row" (spRow) [] := ⟨_, _, _, _, ⟨ok_row F14 Z_abs Z_int Z_range, PySem.W.mg_of X G a14⟩, ⟨k14, B14⟩, .nil⟩
  have C15 : Cal P w K mg base 2 "_law_numbers" (spNumbers K) [] := ⟨_, _, _, _, ⟨ok_numbers F15 C14 Z_max Z_len, PySem.W.mg_of X G a15⟩, ⟨k15, B15⟩, .nil⟩
  have C16 : Cal P w K mg base 1 "_law_pick" (spPick) [] := ⟨_, _, _, _, ⟨ok_pick F16 Z_int, PySem.W.mg_of X G a16⟩, ⟨k16, B16⟩, .nil⟩
  have C17 : Cal P w K mg base 1 "_law_listed" (spListed) [] := ⟨_, _, _, _, ⟨ok_listed F17 Z_int, PySem.W.mg_of X G a17⟩, ⟨k17, B17⟩, .nil⟩
  have C18 : Cal P w K mg base 1 "_law_renamed" (spRenamed) [] := ⟨_, _, _, _, ⟨ok_renamed F18 Z_int Z_range Z_list Z_sorted Z_tuple, PySem.W.mg_of X G a18⟩, ⟨k18, B18⟩, .nil⟩
  have C19 : Cal P w K mg base 1 "_law_threes" (spThrees) [] := ⟨_, _, _, _, ⟨ok_threes F19 Z_int Z_range, PySem.W.mg_of X G a19⟩, ⟨k19, B19⟩, .nil⟩
  have C20 : Cal P w K mg base 10 "_law_refuses" (spRefuses) [] := ⟨_, _, _, _, ⟨ok_refuses F20 CXc (PySem.W.mg_of X G aI) (exm_self bI iI tI sI), PySem.W.mg_of X G a20⟩, ⟨k20, B20⟩, .nil⟩
  exact ok_law F21 ⟨C15, C16, C17, C18, C19, C20, C8, C12, C24, C22, C13, C23, Z_list, Z_range, Z_len, Z_sorted, Z_tuple⟩
end K30
end

set_option Elab.async false
set_option maxRecDepth 100000
open PySem PySem.W PyProof.Rows in
set_option maxRecDepth 100000 in
set_option maxHeartbeats 0 in
theorem PySem.Challenge.cw_paironce_k30_whole_completions_holds : PySem.Challenge.rw_paironce_k30_whole_completions.Holds := by
  w_on; o_law; k_head; (case hw => w_witness2)
  k_fill
  refine L2.walk_ofK (l := PySem.Challenge.rw_paironce_k30_whole_completions) (n := 63) (k := 11) (x := "_law_script") (CX := L2.CX0) (sp := K30.spLaw) rfl (by decide) rfl ⟨rfl, by decide, by decide⟩ (fun w h Y => PySem.W.kIn_of Y) ?F ?S (fun _ _ _ _ z => z)
  case F =>
    intro w mg fa h KX G hmg
    refine' K30.all_mk KX G hmg ?a1 ?l1 ?c1 ?k1 ?a2 ?l2 ?c2 ?k2 ?a3 ?l3 ?c3 ?k3 ?a4 ?l4 ?c4 ?k4 ?a5 ?l5 ?c5 ?k5 ?a6 ?l6 ?c6 ?k6 ?a7 ?l7 ?c7 ?k7 ?a8 ?l8 ?c8 ?k8 ?a9 ?l9 ?c9 ?k9 ?a10 ?l10 ?c10 ?k10 ?a11 ?l11 ?c11 ?k11 ?a12 ?l12 ?c12 ?k12 ?a13 ?l13 ?c13 ?k13 ?a14 ?l14 ?c14 ?k14 ?a15 ?l15 ?c15 ?k15 ?a16 ?l16 ?c16 ?k16 ?a17 ?l17 ?c17 ?k17 ?a18 ?l18 ?c18 ?k18 ?a19 ?l19 ?c19 ?k19 ?a20 ?l20 ?c20 ?k20 ?a21 ?l21 ?c21 ?k21 ?a22 ?l22 ?c22 ?k22 ?d22 ?a23 ?l23 ?c23 ?k23 ?d23 ?a24 ?l24 ?c24 ?k24 ?d24 ?aCS ?pgS ?hdS ?poS ?saS ?mkS ?kcS ?nS1 ?nS2 ?nS3 ?nS4 ?nS5 ?nS6 ?aCR ?pgR ?hdR ?poR ?saR ?mkR ?kcR ?nR1 ?nR2 ?nR3 ?nR4 ?a25 ?i25 ?l25 ?c25 ?k25 ?a26 ?i26 ?l26 ?c26 ?k26 ?a27 ?i27 ?l27 ?c27 ?k27 ?a28 ?i28 ?l28 ?c28 ?k28 ?a29 ?i29 ?l29 ?c29 ?k29 ?a30 ?i30 ?l30 ?c30 ?k30 ?a31 ?i31 ?l31 ?c31 ?k31 ?aI ?xI ?kI ?bI ?tI ?iI ?sI ?mM ?z_tuple ?z_sorted ?z_len ?z_any ?z_all ?z_range ?z_min ?z_max ?z_enumerate ?z_abs ?z_int ?z_list
    (case a1 => k_is)
    (case l1 => k_is)
    (case c1 => k_is)
    (case k1 => k_is)
    (case a2 => k_is)
    (case l2 => k_is)
    (case c2 => k_is)
    (case k2 => k_is)
    (case a3 => k_is)
    (case l3 => k_is)
    (case c3 => k_is)
    (case k3 => k_is)
    (case a4 => k_is)
    (case l4 => k_is)
    (case c4 => k_is)
    (case k4 => k_is)
    (case a5 => k_is)
    (case l5 => k_is)
    (case c5 => k_is)
    (case k5 => k_is)
    (case a6 => k_is)
    (case l6 => k_is)
    (case c6 => k_is)
    (case k6 => k_is)
    (case a7 => k_is)
    (case l7 => k_is)
    (case c7 => k_is)
    (case k7 => k_is)
    (case a8 => k_is)
    (case l8 => k_is)
    (case c8 => k_is)
    (case k8 => k_is)
    (case a9 => k_is)
    (case l9 => k_is)
    (case c9 => k_is)
    (case k9 => k_is)
    (case a10 => k_is)
    (case l10 => k_is)
    (case c10 => k_is)
    (case k10 => k_is)
    (case a11 => k_is)
    (case l11 => k_is)
    (case c11 => k_is)
    (case k11 => k_is)
    (case a12 => k_is)
    (case l12 => k_is)
    (case c12 => k_is)
    (case k12 => k_is)
    (case a13 => k_is)
    (case l13 => k_is)
    (case c13 => k_is)
    (case k13 => k_is)
    (case a14 => k_is)
    (case l14 => k_is)
    (case c14 => k_is)
    (case k14 => k_is)
    (case a15 => k_is)
    (case l15 => k_is)
    (case c15 => k_is)
    (case k15 => k_is)
    (case a16 => k_is)
    (case l16 => k_is)
    (case c16 => k_is)
    (case k16 => k_is)
    (case a17 => k_is)
    (case l17 => k_is)
    (case c17 => k_is)
    (case k17 => k_is)
    (case a18 => k_is)
    (case l18 => k_is)
    (case c18 => k_is)
    (case k18 => k_is)
    (case a19 => k_is)
    (case l19 => k_is)
    (case c19 => k_is)
    (case k19 => k_is)
    (case a20 => k_is)
    (case l20 => k_is)
    (case c20 => k_is)
    (case k20 => k_is)
    (case a21 => k_is)
    (case l21 => k_is)
    (case c21 => k_is)
    (case k21 => k_is)
    (case a22 => k_is)
    (case l22 => k_is)
    (case c22 => k_is)
    (case k22 => k_is)
    (case d22 => k_is)
    (case a23 => k_is)
    (case l23 => k_is)
    (case c23 => k_is)
    (case k23 => k_is)
    (case d23 => k_is)
    (case a24 => k_is)
    (case l24 => k_is)
    (case c24 => k_is)
    (case k24 => k_is)
    (case d24 => k_is)
    (case aCS => k_is)
    (case pgS => k_is)
    (case hdS => k_is)
    (case poS => k_is)
    (case saS => k_is)
    (case mkS => k_is)
    (case kcS => k_is)
    (case nS1 => k_is)
    (case nS2 => k_is)
    (case nS3 => k_is)
    (case nS4 => k_is)
    (case nS5 => k_is)
    (case nS6 => k_is)
    (case aCR => k_is)
    (case pgR => k_is)
    (case hdR => k_is)
    (case poR => k_is)
    (case saR => k_is)
    (case mkR => k_is)
    (case kcR => k_is)
    (case nR1 => k_is)
    (case nR2 => k_is)
    (case nR3 => k_is)
    (case nR4 => k_is)
    (case a25 => k_is)
    (case i25 => k_is)
    (case l25 => k_is)
    (case c25 => k_is)
    (case k25 => k_is)
    (case a26 => k_is)
    (case i26 => k_is)
    (case l26 => k_is)
    (case c26 => k_is)
    (case k26 => k_is)
    (case a27 => k_is)
    (case i27 => k_is)
    (case l27 => k_is)
    (case c27 => k_is)
    (case k27 => k_is)
    (case a28 => k_is)
    (case i28 => k_is)
    (case l28 => k_is)
    (case c28 => k_is)
    (case k28 => k_is)
    (case a29 => k_is)
    (case i29 => k_is)
    (case l29 => k_is)
    (case c29 => k_is)
    (case k29 => k_is)
    (case a30 => k_is)
    (case i30 => k_is)
    (case l30 => k_is)
    (case c30 => k_is)
    (case k30 => k_is)
    (case a31 => k_is)
    (case i31 => k_is)
    (case l31 => k_is)
    (case c31 => k_is)
    (case k31 => k_is)
    (case aI => k_is)
    (case xI => k_exc)
    (case kI => k_is)
    (case bI => k_is)
    (case tI => k_is)
    (case iI => k_is)
    (case sI => first | rfl | k_is)
    (case mM => k_is)
    (case z_tuple => k_is)
    (case z_sorted => k_is)
    (case z_len => k_is)
    (case z_any => k_is)
    (case z_all => k_is)
    (case z_range => k_is)
    (case z_min => k_is)
    (case z_max => k_is)
    (case z_enumerate => k_is)
    (case z_abs => k_is)
    (case z_int => k_is)
    (case z_list => k_is)
  case S =>
    intro K H a ns hn hO hS
    exact ⟨a, ns, rfl, hS, hn, fun _ => rfl⟩
