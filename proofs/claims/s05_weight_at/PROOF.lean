import PyProof.Rows.All
import Wide.All
import OpenK.AllK
import Wide.FinOn
import PyProof.EqAt
import PyProof.EqKinds
import PyProof.TupleCall
import Open.SpecLaws
import KE.OsGo
import PySem.Challenge.RW_halvedpebbles_s05_weight_at
import HandS.ForSpec
import HandS.Comp
import HandS.Dict
import HandS.Iter
import HandS.Zip
import HandS.Walk
import HandS.ExcInit
import HandS.ExcField
import HandS.Style
import KE.KTupSum
import KE.KDictDisplayH
import KE.GoesNew
set_option Elab.async false
set_option linter.all false
set_option maxRecDepth 100000
set_option maxHeartbeats 2000000
namespace HP
open Ks577 (Graph isAdjacent parseEdges possibleMoves canMove pebblesAt move)

/-- the pairs that a row tells -/
def prs : List Nat → List (Nat × Nat)
  | u :: v :: r => (u, v) :: prs r
  | _ => []
theorem prs_get : ∀ (r : List Nat) (i : Nat), 2 * i + 1 < r.length → (prs r)[i]? = some (r.getD (2 * i) 0, r.getD (2 * i + 1) 0)
  | [], _, h => by simp at h
  | [_], i, h => by simp at h
  | u :: v :: r, 0, _ => rfl
  | u :: v :: r, i + 1, h => by
    have ih := prs_get r i (by simp at h; omega)
    show (prs r)[i]? = some ((u :: v :: r).getD (2 * (i + 1)) 0, (u :: v :: r).getD (2 * (i + 1) + 1) 0)
    rw [ih]
    rfl
theorem prs_len : ∀ (r : List Nat), r.length % 2 = 0 → (prs r).length * 2 = r.length
  | [], _ => rfl
  | [_], h => by simp at h
  | u :: v :: r, h => by
    have ih := prs_len r (by simp at h; omega)
    show ((prs r).length + 1) * 2 = r.length + 1 + 1
    omega
theorem prs_take (r : List Nat) (i : Nat) (h : 2 * i + 1 < r.length) : (prs r).take (i + 1) = (prs r).take i ++ [(r.getD (2 * i) 0, r.getD (2 * i + 1) 0)] := by
  rw [List.take_add_one, prs_get r i h]
  rfl
theorem prs_mem : ∀ (r : List Nat) (p : Nat × Nat), p ∈ prs r → p.1 ∈ r ∧ p.2 ∈ r
  | [], p, h => by simp [prs] at h
  | [_], p, h => by simp [prs] at h
  | u :: v :: r, p, h => by
    rcases List.mem_cons.mp h with e | h
    · subst e; simp
    · have ih := prs_mem r p h
      exact ⟨List.mem_cons_of_mem _ (List.mem_cons_of_mem _ ih.1), List.mem_cons_of_mem _ (List.mem_cons_of_mem _ ih.2)⟩

/-- (a, b) below (c, d) -/
def lx (p q : Nat × Nat) : Bool := decide (p.1 < q.1) || (decide (p.1 = q.1) && decide (p.2 < q.2))
theorem lx_iff {p q : Nat × Nat} : lx p q = true ↔ p.1 < q.1 ∨ (p.1 = q.1 ∧ p.2 < q.2) := by
  unfold lx; simp
theorem lx_trans {p q r : Nat × Nat} (h1 : lx p q = true) (h2 : lx q r = true) : lx p r = true := by
  rw [lx_iff] at *; omega
/-- every end below the next one's -/
def rising (ps : List (Nat × Nat)) : Bool := (ps.zip (ps.drop 1)).all fun q => lx q.1 q.2
def inside (n : Nat) (ps : List (Nat × Nat)) : Bool := ps.all fun p => decide (p.1 < p.2) && decide (p.2 < n)
def edgesOk (n : Nat) (row : List Nat) : Bool := decide (row.length % 2 = 0) && (inside n (prs row) && rising (prs row))
theorem rising_cons2 (p q : Nat × Nat) (r : List (Nat × Nat)) : rising (p :: q :: r) = (lx p q && rising (q :: r)) := by
  unfold rising; simp
theorem parse_eq (n : Nat) : ∀ row : List Nat, parseEdges n row = if edgesOk n row = true then some (prs row) else none
  | [] => rfl
  | [_] => rfl
  | u :: v :: rest => by
    have ih := parse_eq n rest
    unfold parseEdges
    have hl : ((u :: v :: rest).length % 2 = 0) ↔ (rest.length % 2 = 0) := by simp; omega
    by_cases h1 : v ≤ u ∨ n ≤ v
    · rw [if_pos h1, if_neg]
      intro z
      unfold edgesOk inside prs at z
      simp at z
      omega
    · rw [if_neg h1, ih]
      have h2 : u < v ∧ v < n := by omega
      by_cases h3 : edgesOk n rest = true
      · rw [if_pos h3]
        unfold edgesOk at h3
        simp only [Bool.and_eq_true, decide_eq_true_eq] at h3
        obtain ⟨e1, e2, e3⟩ := h3
        cases hp : prs rest with
        | nil =>
          have : edgesOk n (u :: v :: rest) = true := by
            unfold edgesOk prs
            rw [hp]
            simp only [Bool.and_eq_true, decide_eq_true_eq]
            refine ⟨hl.mpr e1, ?_, rfl⟩
            unfold inside; simp; omega
          rw [if_pos this]
          unfold prs
          rw [hp]
        | cons q r =>
          rw [hp] at e2 e3
          have key : edgesOk n (u :: v :: rest) = lx (u, v) q := by
            unfold edgesOk prs
            rw [hp, rising_cons2, e3, decide_eq_true (hl.mpr e1)]
            have : inside n ((u, v) :: q :: r) = true := by
              unfold inside at *
              rw [List.all_cons, e2]
              simp; omega
            rw [this]; simp
          dsimp only
          by_cases h4 : u < q.1 ∨ (u = q.1 ∧ v < q.2)
          · rw [if_pos h4, if_pos (key.trans (lx_iff.mpr h4))]
            unfold prs
            rw [hp]
          · rw [if_neg h4, if_neg]
            intro z
            exact h4 (lx_iff.mp (key.symm.trans z))
      · rw [if_neg h3]
        dsimp only
        rw [if_neg]
        intro z
        apply h3
        unfold edgesOk prs at z
        unfold edgesOk
        simp only [Bool.and_eq_true, decide_eq_true_eq] at z ⊢
        refine ⟨hl.mp z.1, ?_, ?_⟩
        · have := z.2.1
          unfold inside at this ⊢
          rw [List.all_cons, Bool.and_eq_true] at this
          exact this.2
        · have := z.2.2
          cases hp : prs rest with
          | nil => rfl
          | cons q r =>
            rw [hp, rising_cons2, Bool.and_eq_true] at this
            exact this.2

theorem rising_pairwise : ∀ ps : List (Nat × Nat), rising ps = true → ps.Pairwise fun p q => lx p q = true
  | [], _ => .nil
  | [_], _ => by simp
  | p :: q :: r, h => by
    rw [rising_cons2, Bool.and_eq_true] at h
    have ih := rising_pairwise (q :: r) h.2
    refine List.Pairwise.cons (fun x hx => ?_) ih
    rcases List.mem_cons.mp hx with e | hx
    · rw [e]; exact h.1
    · exact lx_trans h.1 ((List.pairwise_cons.mp ih).1 x hx)

/-- what a graph that was let in is like -/
structure Good (g : Graph) : Prop where
  lo : 1 ≤ g.vertexCount
  hi : g.vertexCount ≤ 5
  ins : ∀ p ∈ g.edges, p.1 < p.2 ∧ p.2 < g.vertexCount
  ord : g.edges.Pairwise fun p q => lx p q = true

/-- the neighbours of a vertex, by the row of pairs -/
def lows (ps : List (Nat × Nat)) (v : Nat) : List Nat := (ps.filter fun p => decide (p.2 = v)).map (·.1)
def highs (ps : List (Nat × Nat)) (v : Nat) : List Nat := (ps.filter fun p => decide (p.1 = v)).map (·.2)
/-- .. by the specification -/
def nb (g : Graph) (v : Nat) : List Nat := (List.range g.vertexCount).filter fun u => isAdjacent g v u
theorem adj_iff {g : Graph} {u v : Nat} : isAdjacent g u v = true ↔ (u, v) ∈ g.edges ∨ (v, u) ∈ g.edges := by
  unfold isAdjacent
  rw [List.any_eq_true]
  constructor
  · rintro ⟨⟨a, b⟩, h, e⟩
    simp only [Bool.or_eq_true, Bool.and_eq_true, beq_iff_eq] at e
    rcases e with ⟨rfl, rfl⟩ | ⟨rfl, rfl⟩
    · exact .inl h
    · exact .inr h
  · rintro (h | h)
    · exact ⟨_, h, by simp⟩
    · exact ⟨_, h, by simp⟩
theorem adj_symm (g : Graph) (u v : Nat) : isAdjacent g u v = isAdjacent g v u := by
  rw [Bool.eq_iff_iff, adj_iff, adj_iff]; exact Or.comm
theorem nb_eq {g : Graph} (G : Good g) (v : Nat) : lows g.edges v ++ highs g.edges v = nb g v := by
  have s1 : (lows g.edges v ++ highs g.edges v).Pairwise (· < ·) := by
    rw [List.pairwise_append]
    refine ⟨?_, ?_, ?_⟩
    · unfold lows
      rw [List.pairwise_map]
      refine List.Pairwise.imp_of_mem ?_ (List.Pairwise.sublist List.filter_sublist G.ord)
      intro p q hp hq h
      rw [lx_iff] at h
      have e1 := (List.mem_filter.mp hp).2
      have e2 := (List.mem_filter.mp hq).2
      simp at e1 e2
      omega
    · unfold highs
      rw [List.pairwise_map]
      refine List.Pairwise.imp_of_mem ?_ (List.Pairwise.sublist List.filter_sublist G.ord)
      intro p q hp hq h
      rw [lx_iff] at h
      have e1 := (List.mem_filter.mp hp).2
      have e2 := (List.mem_filter.mp hq).2
      simp at e1 e2
      omega
    · intro a ha b hb
      unfold lows at ha
      unfold highs at hb
      obtain ⟨p, hp, rfl⟩ := List.mem_map.mp ha
      obtain ⟨q, hq, rfl⟩ := List.mem_map.mp hb
      have e1 := List.mem_filter.mp hp
      have e2 := List.mem_filter.mp hq
      have i1 := G.ins p e1.1
      have i2 := G.ins q e2.1
      have f1 := e1.2
      have f2 := e2.2
      simp at f1 f2
      omega
  have s2 : (nb g v).Pairwise (· < ·) := List.Pairwise.sublist List.filter_sublist List.pairwise_lt_range
  refine List.Perm.eq_of_pairwise (le := (· < ·)) (fun a b _ _ h1 h2 => by omega) s1 s2 ?_
  refine (List.perm_ext_iff_of_nodup (s1.imp (fun h => Nat.ne_of_lt h)) (s2.imp (fun h => Nat.ne_of_lt h))).mpr fun a => ?_
  unfold nb lows highs
  rw [List.mem_filter, adj_iff, List.mem_append, List.mem_range]
  constructor
  · rintro (h | h)
    · obtain ⟨⟨x, y⟩, hp, rfl⟩ := List.mem_map.mp h
      have e := List.mem_filter.mp hp
      have i := G.ins _ e.1
      have f := e.2
      simp at f
      subst f
      exact ⟨by simp at i ⊢; omega, .inr e.1⟩
    · obtain ⟨⟨x, y⟩, hp, rfl⟩ := List.mem_map.mp h
      have e := List.mem_filter.mp hp
      have i := G.ins _ e.1
      have f := e.2
      simp at f
      subst f
      exact ⟨i.2, .inl e.1⟩
  · rintro ⟨h1, h | h⟩
    · exact .inr (List.mem_map.mpr ⟨_, List.mem_filter.mpr ⟨h, by simp⟩, rfl⟩)
    · exact .inl (List.mem_map.mpr ⟨_, List.mem_filter.mpr ⟨h, by simp⟩, rfl⟩)
theorem nb_lt {g : Graph} {v u : Nat} (h : u ∈ nb g v) : u < g.vertexCount := List.mem_range.mp (List.mem_filter.mp h).1
theorem nb_len (g : Graph) (v : Nat) : (nb g v).length ≤ g.vertexCount := by
  have := List.length_filter_le (fun u => isAdjacent g v u) (List.range g.vertexCount)
  rw [List.length_range] at this
  exact this

/-- the moves from one vertex -/
def from1 (g : Graph) (c : List Nat) (u : Nat) : List (Nat × Nat) := if 2 ≤ c.getD u 0 then (nb g u).map fun v => (u, v) else []
theorem possible_eq (g : Graph) (c : List Nat) : possibleMoves g c = (List.range g.vertexCount).flatMap (from1 g c) := by
  unfold possibleMoves
  congr 1
  funext u
  unfold from1 nb canMove pebblesAt
  by_cases h : 2 ≤ c.getD u 0
  · rw [if_pos h]
    simp only [decide_eq_true h, Bool.and_true]
  · rw [if_neg h]
    simp only [decide_eq_false h, Bool.and_false]
    simp
theorem possible_mem {g : Graph} {c : List Nat} {m : Nat × Nat} (h : m ∈ possibleMoves g c) : m.1 < g.vertexCount ∧ m.2 < g.vertexCount ∧ 2 ≤ c.getD m.1 0 ∧ isAdjacent g m.1 m.2 = true := by
  rw [possible_eq, List.mem_flatMap] at h
  obtain ⟨u, hu, h⟩ := h
  unfold from1 at h
  by_cases e : 2 ≤ c.getD u 0
  · rw [if_pos e] at h
    obtain ⟨v, hv, rfl⟩ := List.mem_map.mp h
    exact ⟨List.mem_range.mp hu, nb_lt hv, e, (List.mem_filter.mp hv).2⟩
  · rw [if_neg e] at h
    cases h
theorem adj_ne {g : Graph} (G : Good g) {u v : Nat} (h : isAdjacent g u v = true) : u ≠ v := by
  intro e
  subst e
  rw [adj_iff] at h
  rcases h with h | h <;> exact absurd (G.ins _ h).1 (Nat.lt_irrefl _)
theorem canMove_iff {g : Graph} {c : List Nat} {u v : Nat} (hv : v < g.vertexCount) : canMove g c u v = (decide (v ∈ nb g u) && decide (2 ≤ c.getD u 0)) := by
  unfold canMove pebblesAt
  congr 1
  rw [Bool.eq_iff_iff, decide_eq_true_iff]
  unfold nb
  rw [List.mem_filter, List.mem_range]
  exact ⟨fun h => ⟨hv, h⟩, fun h => h.2⟩
theorem move_len (c : List Nat) (s t : Nat) : (move c s t).length = c.length := by
  unfold move; simp
theorem good_of {n : Nat} {row : List Nat} (h1 : 1 ≤ n) (h2 : n ≤ 5) (h : edgesOk n row = true) : Good ⟨n, prs row⟩ := by
  unfold edgesOk at h
  simp only [Bool.and_eq_true, decide_eq_true_eq] at h
  refine ⟨h1, h2, fun p hp => ?_, rising_pairwise _ h.2.2⟩
  have := List.all_eq_true.mp h.2.1 p hp
  simpa using this
end HP

namespace HP
open Ks577 (Graph isAdjacent pebblesAt neighbourhood distance weightAt Rational)

/-! ### what lies near -/
def near (g : Graph) (vs : List Nat) : List Nat := (List.range g.vertexCount).filter fun v => vs.contains v || vs.any fun u => isAdjacent g u v
def Bk (g : Graph) (u : Nat) : Nat → List Nat
  | 0 => [u]
  | k + 1 => near g (Bk g u k)
theorem mem_near {g : Graph} {vs : List Nat} {v : Nat} : v ∈ near g vs ↔ v < g.vertexCount ∧ (v ∈ vs ∨ ∃ u ∈ vs, isAdjacent g u v = true) := by
  unfold near
  rw [List.mem_filter, List.mem_range, Bool.or_eq_true, List.contains_iff_mem, List.any_eq_true]
theorem nbh_succ (g : Graph) : ∀ (k : Nat) (vs : List Nat), neighbourhood g (k + 1) vs = near g (neighbourhood g k vs)
  | 0, vs => rfl
  | k + 1, vs => nbh_succ g k (near g vs)
theorem nbh_eq (g : Graph) (u : Nat) : ∀ k, neighbourhood g k [u] = Bk g u k
  | 0 => rfl
  | k + 1 => by
    rw [nbh_succ, nbh_eq g u k]; rfl
theorem Bk_up {g : Graph} {u v k : Nat} (hv : v < g.vertexCount) (h : v ∈ Bk g u k) : v ∈ Bk g u (k + 1) := mem_near.mpr ⟨hv, .inl h⟩
theorem Bk_lt {g : Graph} {u v : Nat} (hu : u < g.vertexCount) : ∀ {k : Nat}, v ∈ Bk g u k → v < g.vertexCount
  | 0, h => by
    have e : v = u := List.mem_singleton.mp h
    rw [e]; exact hu
  | k + 1, h => (mem_near.mp h).1
theorem adj_lt {g : Graph} (G : Good g) {u v : Nat} (h : isAdjacent g u v = true) : u < g.vertexCount ∧ v < g.vertexCount := by
  rw [adj_iff] at h
  rcases h with h | h
  · have := G.ins _ h
    simp at this
    omega
  · have := G.ins _ h
    simp at this
    omega
theorem Bk_front {g : Graph} {u w : Nat} (hw : w < g.vertexCount) (ha : isAdjacent g u w = true) : ∀ (k v : Nat), v ∈ Bk g w k → v ∈ Bk g u (k + 1)
  | 0, v, h => by
    have e : v = w := List.mem_singleton.mp h
    subst e
    exact mem_near.mpr ⟨hw, .inr ⟨u, List.mem_singleton.mpr rfl, ha⟩⟩
  | k + 1, v, h => by
    obtain ⟨hv, h | ⟨x, hx, hxv⟩⟩ := mem_near.mp h
    · exact Bk_up hv (Bk_front hw ha k v h)
    · exact mem_near.mpr ⟨hv, .inr ⟨x, Bk_front hw ha k x hx, hxv⟩⟩
theorem Bk_symm {g : Graph} (G : Good g) : ∀ (k u v : Nat), u < g.vertexCount → v ∈ Bk g u k → u ∈ Bk g v k
  | 0, u, v, _, h => by
    have e : v = u := List.mem_singleton.mp h
    rw [e]; exact List.mem_singleton.mpr rfl
  | k + 1, u, v, hu, h => by
    obtain ⟨hv, h | ⟨w, hw, ha⟩⟩ := mem_near.mp h
    · exact Bk_up hu (Bk_symm G k u v hu h)
    · have h1 := Bk_symm G k u w hu hw
      have h2 : isAdjacent g v w = true := by rw [adj_symm]; exact ha
      exact Bk_front (adj_lt G ha).1 h2 k u h1
/-- v is at distance k -/
def Fst (g : Graph) (t v k : Nat) : Prop := v ∈ Bk g t k ∧ ∀ j, j < k → v ∉ Bk g t j
theorem Bk_mono {g : Graph} {t v : Nat} (ht : t < g.vertexCount) {j k : Nat} (h : v ∈ Bk g t j) (hjk : j ≤ k) : v ∈ Bk g t k := by
  induction hjk with
  | refl => exact h
  | step _ ih => exact Bk_up (Bk_lt ht h) ih
theorem fst_of {g : Graph} {t v : Nat} : ∀ k, v ∈ Bk g t k → ∃ j, j ≤ k ∧ Fst g t v j
  | 0, h => ⟨0, Nat.le_refl _, h, fun j hj => absurd hj (Nat.not_lt_zero j)⟩
  | k + 1, h => by
    by_cases e : v ∈ Bk g t k
    · obtain ⟨j, hj, f⟩ := fst_of k e
      exact ⟨j, by omega, f⟩
    · refine ⟨k + 1, Nat.le_refl _, h, fun j hj z => ?_⟩
      -- a smaller one would be in
      by_cases hz : ∃ i, i ≤ k ∧ v ∈ Bk g t i
      · obtain ⟨i, hi, hv⟩ := hz
        have hv1 := (mem_near.mp h).1
        have : ∀ d, v ∈ Bk g t (i + d) := by
          intro d
          induction d with
          | zero => exact hv
          | succ d ih => exact Bk_up hv1 ih
        have := this (k - i)
        rw [show i + (k - i) = k by omega] at this
        exact e this
      · exact hz ⟨j, by omega, z⟩
theorem fst_unique {g : Graph} {t v j k : Nat} (h1 : Fst g t v j) (h2 : Fst g t v k) : j = k := by
  rcases Nat.lt_trichotomy j k with h | h | h
  · exact absurd h1.1 (h2.2 j h)
  · exact h
  · exact absurd h2.1 (h1.2 k h)
theorem fst_back {g : Graph} (G : Good g) {t v k : Nat} (ht : t < g.vertexCount) (h : Fst g t v (k + 1)) : ∃ u, isAdjacent g u v = true ∧ Fst g t u k := by
  obtain ⟨h1, h2⟩ := h
  obtain ⟨hv, h | ⟨u, hu, ha⟩⟩ := mem_near.mp h1
  · exact absurd h (h2 k (Nat.lt_succ_self k))
  · refine ⟨u, ha, hu, fun j hj z => ?_⟩
    exact h2 (j + 1) (by omega) (mem_near.mpr ⟨hv, .inr ⟨u, z, ha⟩⟩)
theorem chain {g : Graph} (G : Good g) {t : Nat} (ht : t < g.vertexCount) : ∀ (k v : Nat), Fst g t v k → ∃ L : List Nat, L.length = k + 1 ∧ L.Nodup ∧ ∀ x ∈ L, x < g.vertexCount ∧ ∃ j, j ≤ k ∧ Fst g t x j
  | 0, v, h => ⟨[v], rfl, by simp, fun x hx => by
      have e : x = v := List.mem_singleton.mp hx
      subst e
      exact ⟨Bk_lt ht h.1, 0, Nat.le_refl _, h⟩⟩
  | k + 1, v, h => by
    obtain ⟨u, _, hu⟩ := fst_back G ht h
    obtain ⟨L, h1, h2, h3⟩ := chain G ht k u hu
    refine ⟨v :: L, by rw [List.length_cons, h1], List.nodup_cons.mpr ⟨fun hm => ?_, h2⟩, fun x hx => ?_⟩
    · obtain ⟨_, j, hj, f⟩ := h3 v hm
      have := fst_unique f h
      omega
    · rcases List.mem_cons.mp hx with e | hx
      · subst e
        exact ⟨Bk_lt ht h.1, k + 1, Nat.le_refl _, h⟩
      · obtain ⟨a, j, hj, f⟩ := h3 x hx
        exact ⟨a, j, by omega, f⟩
theorem fst_lt {g : Graph} (G : Good g) {t v k : Nat} (ht : t < g.vertexCount) (h : Fst g t v k) : k < g.vertexCount := by
  obtain ⟨L, h1, h2, h3⟩ := chain G ht k v h
  have sub : L ⊆ List.range g.vertexCount := fun x hx => List.mem_range.mpr (h3 x hx).1
  have := h2.length_le_of_subset sub
  rw [List.length_range] at this
  omega
theorem dist_some {g : Graph} (G : Good g) {t v k : Nat} (ht : t < g.vertexCount) (hv : v < g.vertexCount) (h : Fst g t v k) : distance g v t = some k := by
  unfold distance
  have hk := fst_lt G ht h
  have key : ∀ j, ((neighbourhood g j [v]).contains t) = true ↔ v ∈ Bk g t j := fun j => by
    rw [nbh_eq, List.contains_iff_mem]
    exact ⟨fun z => Bk_symm G j v t hv z, fun z => Bk_symm G j t v ht z⟩
  rw [List.find?_eq_some_iff_getElem]
  refine ⟨(key k).mpr h.1, k, by rw [List.length_range]; exact hk, List.getElem_range _, fun j hj => ?_⟩
  rw [List.getElem_range]
  have := h.2 j hj
  rw [← key j] at this
  simpa using this
theorem dist_none {g : Graph} (G : Good g) {t v : Nat} (ht : t < g.vertexCount) (hv : v < g.vertexCount) (h : ∀ k, k < g.vertexCount → v ∉ Bk g t k) : distance g v t = none := by
  unfold distance
  rw [List.find?_eq_none]
  intro j hj z
  rw [nbh_eq, List.contains_iff_mem] at z
  exact h j (List.mem_range.mp hj) (Bk_symm G j v t hv z)

/-! ### the program's rounds -/
def stepD (g : Graph) (k : Nat) (f : List Int) (v : Nat) : List Int := if f.getD v 0 = -1 ∧ ∃ u ∈ nb g v, f.getD u 0 = (k : Int) then f.set v ((k : Int) + 1) else f
instance (g : Graph) (k : Nat) (f : List Int) (v : Nat) : Decidable (f.getD v 0 = -1 ∧ ∃ u ∈ nb g v, f.getD u 0 = (k : Int)) := inferInstance
def roundD (g : Graph) (f : List Int) (k : Nat) : List Int := (List.range g.vertexCount).foldl (stepD g k) f
def startD (g : Graph) (t : Nat) : List Int := (List.replicate g.vertexCount (-1)).set t 0
def distD (g : Graph) (t : Nat) : List Int := (List.range g.vertexCount).foldl (roundD g) (startD g t)
theorem stepD_len (g : Graph) (k : Nat) (f : List Int) (v : Nat) : (stepD g k f v).length = f.length := by
  unfold stepD
  split
  · rw [List.length_set]
  · rfl
theorem foldD_len (g : Graph) (k : Nat) : ∀ (vs : List Nat) (f : List Int), (vs.foldl (stepD g k) f).length = f.length
  | [], f => rfl
  | v :: vs, f => by rw [List.foldl_cons, foldD_len g k vs, stepD_len]
theorem getD_set_same {f : List Int} {v : Nat} {x : Int} (h : v < f.length) : (f.set v x).getD v 0 = x := by
  rw [List.getD_eq_getElem?_getD, List.getElem?_set_self h]; rfl
theorem getD_set_other {f : List Int} {v u : Nat} {x : Int} (h : v ≠ u) : (f.set v x).getD u 0 = f.getD u 0 := by
  rw [List.getD_eq_getElem?_getD, List.getElem?_set_ne h, ← List.getD_eq_getElem?_getD]
/-- what a round has made of f, for the vertices below i -/
structure Mid (g : Graph) (k i : Nat) (f f' : List Int) : Prop where
  len : f'.length = f.length
  old : ∀ v, i ≤ v → f'.getD v 0 = f.getD v 0
  new : ∀ v, v < i → f'.getD v 0 = if f.getD v 0 = -1 ∧ ∃ u ∈ nb g v, f.getD u 0 = (k : Int) then (k : Int) + 1 else f.getD v 0
theorem Mid.same {g : Graph} {k i : Nat} {f f' : List Int} (M : Mid g k i f f') (u : Nat) : f'.getD u 0 = (k : Int) ↔ f.getD u 0 = (k : Int) := by
  rcases Nat.lt_or_ge u i with h | h
  · rw [M.new u h]
    split
    · rename_i c
      constructor
      · intro z; omega
      · intro z
        have := c.1
        omega
    · exact Iff.rfl
  · rw [M.old u h]
theorem Mid.next {g : Graph} {k i : Nat} {f f' : List Int} (M : Mid g k i f f') (hi : i < f.length) : Mid g k (i + 1) f (stepD g k f' i) := by
  have hc : (f'.getD i 0 = -1 ∧ ∃ u ∈ nb g i, f'.getD u 0 = (k : Int)) ↔ (f.getD i 0 = -1 ∧ ∃ u ∈ nb g i, f.getD u 0 = (k : Int)) := by
    rw [M.old i (Nat.le_refl _)]
    constructor
    · rintro ⟨a, u, hu, b⟩
      exact ⟨a, u, hu, (M.same u).mp b⟩
    · rintro ⟨a, u, hu, b⟩
      exact ⟨a, u, hu, (M.same u).mpr b⟩
  have hl : i < f'.length := by rw [M.len]; exact hi
  refine ⟨by rw [stepD_len, M.len], fun v hv => ?_, fun v hv => ?_⟩
  · unfold stepD
    split
    · rw [getD_set_other (by omega)]; exact M.old v (by omega)
    · exact M.old v (by omega)
  · rcases Nat.lt_or_ge v i with h | h
    · unfold stepD
      split
      · rw [getD_set_other (by omega)]; exact M.new v h
      · exact M.new v h
    · have e : v = i := by omega
      subst e
      unfold stepD
      by_cases c : f'.getD v 0 = -1 ∧ ∃ u ∈ nb g v, f'.getD u 0 = (k : Int)
      · rw [if_pos c, if_pos (hc.mp c), getD_set_same hl]
      · rw [if_neg c, if_neg (fun z => c (hc.mpr z))]; exact M.old v (Nat.le_refl _)
theorem Mid.all {g : Graph} {k : Nat} {f : List Int} : ∀ i, i ≤ f.length → Mid g k i f ((List.range i).foldl (stepD g k) f)
  | 0, _ => ⟨rfl, fun _ _ => rfl, fun v hv => absurd hv (Nat.not_lt_zero v)⟩
  | i + 1, h => by
    rw [List.range_succ, List.foldl_append]
    exact (Mid.all i (by omega)).next (by omega)
/-- what is told behind k rounds -/
structure Dist (g : Graph) (t k : Nat) (f : List Int) : Prop where
  len : f.length = g.vertexCount
  yes : ∀ v j, v < g.vertexCount → j ≤ k → Fst g t v j → f.getD v 0 = (j : Int)
  no : ∀ v, v < g.vertexCount → v ∉ Bk g t k → f.getD v 0 = -1
theorem Dist.start {g : Graph} {t : Nat} (ht : t < g.vertexCount) : Dist g t 0 (startD g t) := by
  have hl : t < (List.replicate g.vertexCount (-1 : Int)).length := by rw [List.length_replicate]; exact ht
  refine ⟨by unfold startD; rw [List.length_set, List.length_replicate], fun v j hv hj h => ?_, fun v hv h => ?_⟩
  · have e : j = 0 := by omega
    subst e
    have e : v = t := List.mem_singleton.mp h.1
    subst e
    exact getD_set_same hl
  · have e : t ≠ v := fun z => h (by rw [z]; exact List.mem_singleton.mpr rfl)
    unfold startD
    rw [getD_set_other e, List.getD_eq_getElem?_getD, List.getElem?_replicate, if_pos hv]
    rfl
theorem Dist.round {g : Graph} (G : Good g) {t k : Nat} (ht : t < g.vertexCount) {f : List Int} (D : Dist g t k f) : Dist g t (k + 1) (roundD g f k) := by
  have M := Mid.all (g := g) (k := k) (f := f) g.vertexCount (by rw [D.len]; exact Nat.le_refl _)
  have M' : Mid g k g.vertexCount f (roundD g f k) := M
  have cond : ∀ v, v < g.vertexCount → v ∉ Bk g t k → ((∃ u ∈ nb g v, f.getD u 0 = (k : Int)) ↔ v ∈ Bk g t (k + 1)) := by
    intro v hv hn
    constructor
    · rintro ⟨u, hu, e⟩
      have hu' := List.mem_filter.mp hu
      have hun : u < g.vertexCount := List.mem_range.mp hu'.1
      have ha : isAdjacent g u v = true := by rw [adj_symm]; exact hu'.2
      have hin : u ∈ Bk g t k := by
        apply Classical.byContradiction
        intro z
        have := D.no u hun z
        omega
      exact mem_near.mpr ⟨hv, .inr ⟨u, hin, ha⟩⟩
    · intro h
      obtain ⟨_, h | ⟨u, hu, ha⟩⟩ := mem_near.mp h
      · exact absurd h hn
      · have hun := (adj_lt G ha).1
        refine ⟨u, List.mem_filter.mpr ⟨List.mem_range.mpr hun, by rw [adj_symm]; exact ha⟩, ?_⟩
        obtain ⟨j, hj, f1⟩ := fst_of k hu
        have hjk : j = k := by
          apply Classical.byContradiction
          intro z
          have h2 : v ∈ Bk g t (j + 1) := mem_near.mpr ⟨hv, .inr ⟨u, f1.1, ha⟩⟩
          exact hn (Bk_mono ht h2 (by omega))
        rw [D.yes u j hun hj f1, hjk]
  refine ⟨by rw [M'.len, D.len], fun v j hv hj h => ?_, fun v hv h => ?_⟩
  · rw [M'.new v hv]
    by_cases hjk : j ≤ k
    · have e := D.yes v j hv hjk h
      rw [if_neg (fun z => by have := z.1; omega), e]
    · have e : j = k + 1 := by omega
      subst e
      have hn := h.2 k (Nat.lt_succ_self k)
      rw [if_pos ⟨D.no v hv hn, (cond v hv hn).mpr h.1⟩]
      omega
  · have hn : v ∉ Bk g t k := fun z => h (Bk_up hv z)
    rw [M'.new v hv, if_neg (fun z => h ((cond v hv hn).mp z.2))]
    exact D.no v hv hn
theorem Dist.all {g : Graph} (G : Good g) {t : Nat} (ht : t < g.vertexCount) : ∀ k, Dist g t k ((List.range k).foldl (roundD g) (startD g t))
  | 0 => Dist.start ht
  | k + 1 => by
    rw [List.range_succ, List.foldl_append]
    exact (Dist.all G ht k).round G ht
/-- the distances, as the specification tells them -/
structure DistOk (g : Graph) (t : Nat) (f : List Int) : Prop where
  len : f.length = g.vertexCount
  yes : ∀ v k, v < g.vertexCount → distance g v t = some k → f.getD v 0 = (k : Int) ∧ k ≤ 4
  no : ∀ v, v < g.vertexCount → distance g v t = none → f.getD v 0 = -1
theorem dist_ok {g : Graph} (G : Good g) {t : Nat} (ht : t < g.vertexCount) : DistOk g t (distD g t) := by
  have D := Dist.all G ht g.vertexCount
  refine ⟨D.len, fun v k hv h => ?_, fun v hv h => ?_⟩
  · by_cases e : v ∈ Bk g t g.vertexCount
    · obtain ⟨j, hj, f⟩ := fst_of _ e
      rw [dist_some G ht hv f] at h
      cases h
      have := fst_lt G ht f
      have := G.hi
      exact ⟨D.yes v _ hv hj f, by omega⟩
    · have h0 := dist_none G ht hv fun j hj z => e (Bk_mono ht z (Nat.le_of_lt hj))
      rw [h0] at h
      cases h
  · apply D.no v hv
    intro e
    obtain ⟨j, hj, f⟩ := fst_of _ e
    rw [dist_some G ht hv f] at h
    cases h

/-! ### weights -/
def con (p : Nat) (d : Int) : Nat := if d = -1 then 0 else p * 2 ^ (4 - d.toNat)
def six (l : List Nat) (f : List Int) : Nat := (l.zip f).foldl (fun a q => a + con q.1 q.2) 0
theorem rat_step : ∀ S, S < 193 → ∀ p, p < 13 → ∀ d, d < 5 → Rational.add (Rational.make (S : Nat) 16) (Rational.make (p : Nat) (2 ^ d)) = Rational.make ((S + p * 2 ^ (4 - d) : Nat)) 16 := by decide +kernel
def lowN : Nat → Nat → Nat → Nat × Nat
  | 0, a, b => (a, b)
  | f + 1, a, b => if 1 < b ∧ a % 2 = 0 then lowN f (a / 2) (b / 2) else (a, b)
theorem low_eq : ∀ S, S < 193 → Rational.make (S : Nat) 16 = ⟨((lowN 4 S 16).1 : Nat), (lowN 4 S 16).2⟩ := by decide +kernel
theorem fold_add (f : List (Nat × Int)) : ∀ a, f.foldl (fun a q => a + con q.1 q.2) a = a + (f.map fun q => con q.1 q.2).sum := by
  induction f with
  | nil => intro a; simp
  | cons q f ih =>
    intro a
    rw [List.foldl_cons, ih, List.map_cons, List.sum_cons]
    omega
theorem six_take {l : List Nat} {f : List Int} {i : Nat} (h1 : i < l.length) (h2 : i < f.length) : six (l.take (i + 1)) (f.take (i + 1)) = six (l.take i) (f.take i) + con (l.getD i 0) (f.getD i 0) := by
  unfold six
  have tz : ∀ n, (l.take n).zip (f.take n) = (l.zip f).take n := fun n => by simp [List.zip, List.take_zipWith]
  rw [tz, tz, List.take_add_one]
  have e : (l.zip f)[i]? = some (l.getD i 0, f.getD i 0) := by
    rw [List.getElem?_zip_eq_some]
    have a1 : l[i]? = some (l.getD i 0) := by
      rw [List.getD_eq_getElem?_getD, List.getElem?_eq_getElem h1]; rfl
    have a2 : f[i]? = some (f.getD i 0) := by
      rw [List.getD_eq_getElem?_getD, List.getElem?_eq_getElem h2]; rfl
    exact ⟨a1, a2⟩
  rw [e, List.foldl_append]
  rfl
theorem con_le {p : Nat} {d : Int} : con p d ≤ 16 * p := by
  unfold con
  split
  · exact Nat.zero_le _
  · have h : 2 ^ (4 - d.toNat) ≤ 2 ^ 4 := Nat.pow_le_pow_right (by decide) (by omega)
    have := Nat.mul_le_mul_left p h
    omega
theorem sum_take_le : ∀ (l : List Nat) (i : Nat), (l.take i).sum ≤ l.sum
  | [], i => by simp
  | a :: l, 0 => by simp
  | a :: l, i + 1 => by
    have := sum_take_le l i
    rw [List.take_succ_cons, List.sum_cons, List.sum_cons]
    omega
theorem sum_take_succ {l : List Nat} {i : Nat} (h : i < l.length) : (l.take (i + 1)).sum = (l.take i).sum + l.getD i 0 := by
  rw [List.take_add_one, List.getElem?_eq_getElem h, List.sum_append]
  simp [List.getD_eq_getElem?_getD, List.getElem?_eq_getElem h]
theorem six_le {l : List Nat} {f : List Int} : ∀ i, i ≤ l.length → i ≤ f.length → six (l.take i) (f.take i) ≤ 16 * (l.take i).sum
  | 0, _, _ => by simp [six]
  | i + 1, h1, h2 => by
    have ih := six_le i (Nat.le_of_succ_le h1) (Nat.le_of_succ_le h2)
    rw [six_take h1 h2, sum_take_succ h1]
    have := con_le (p := l.getD i 0) (d := f.getD i 0)
    omega
theorem weight_fold {g : Graph} {t : Nat} {f : List Int} (D : DistOk g t f) {c : List Nat} (hc : c.length = g.vertexCount) (hs : c.sum ≤ 12) : ∀ i, i ≤ g.vertexCount →
    (List.range i).foldl (fun total u => match distance g u t with
      | none => total
      | some d => Rational.add total (Rational.make (pebblesAt c u : Int) (2 ^ d))) Rational.zero = Rational.make (six (c.take i) (f.take i) : Nat) 16
  | 0, _ => by
    show Rational.zero = Rational.make ((0 : Nat) : Int) 16
    decide
  | i + 1, h => by
    have ih := weight_fold D hc hs i (Nat.le_of_succ_le h)
    have h1 : i < c.length := by omega
    have h2 : i < f.length := by rw [D.len]; omega
    rw [List.range_succ, List.foldl_append, ih, six_take h1 h2]
    show (match distance g i t with
      | none => Rational.make (six (c.take i) (f.take i) : Nat) 16
      | some d => Rational.add (Rational.make (six (c.take i) (f.take i) : Nat) 16) (Rational.make (pebblesAt c i : Int) (2 ^ d))) = _
    cases e : distance g i t with
    | none =>
      have := D.no i h e
      dsimp only
      unfold con
      rw [if_pos this, Nat.add_zero]
    | some d =>
      obtain ⟨e1, e2⟩ := D.yes i d h e
      dsimp only
      have b1 := six_le (l := c) (f := f) i (by omega) (by omega)
      have b2 := sum_take_le c (i + 1)
      rw [sum_take_succ h1] at b2
      have := rat_step (six (c.take i) (f.take i)) (by omega) (c.getD i 0) (by omega) d (by omega)
      show Rational.add (Rational.make (six (c.take i) (f.take i) : Nat) 16) (Rational.make ((c.getD i 0 : Nat) : Int) (2 ^ d)) = _
      rw [this]
      unfold con
      rw [if_neg (by omega), e1]
      rfl
theorem weight_eq {g : Graph} {t : Nat} {f : List Int} (D : DistOk g t f) {c : List Nat} (hc : c.length = g.vertexCount) (hs : c.sum ≤ 12) : weightAt g c t = Rational.make (six c f : Nat) 16 ∧ six c f < 193 := by
  have h := weight_fold D hc hs g.vertexCount (Nat.le_refl _)
  have e1 : c.take g.vertexCount = c := List.take_of_length_le (by omega)
  have e2 : f.take g.vertexCount = f := List.take_of_length_le (by rw [D.len]; exact Nat.le_refl _)
  rw [e1, e2] at h
  refine ⟨h, ?_⟩
  have b := six_le (l := c) (f := f) g.vertexCount (by omega) (by rw [D.len]; exact Nat.le_refl _)
  rw [e1, e2] at b
  omega
end HP

namespace HP
open PySem PySem.Spec PyProof.Rows L2

/-! ### heaps: what is like what -/
/-- tuples stand as they stood -/
def Tk (H H' : Hp) : Prop := ∀ (a : Addr) (xs : List V), H a = some (.tup xs) → H' a = some (.tup xs)
theorem Tk.refl (H : Hp) : Tk H H := fun _ _ h => h
theorem Tk.trans {H H1 H2 : Hp} (a : Tk H H1) (b : Tk H1 H2) : Tk H H2 := fun c xs h => b c xs (a c xs h)
theorem Tk.same {H H' : Hp} (s : Same H H') : Tk H H' := fun a xs h => s a _ h
theorem Tk.lst {H : Hp} {p : Addr} {o : HO} {ys : List V} (h : H p = some (.lst ys)) : Tk H (upd H p o) := fun a xs e => by
  rw [upd_ne (ne_of e h (fun z => nomatch z))]; exact e
theorem Tk.dct {H : Hp} {p : Addr} {o : HO} {ys : List (List Key × V)} (h : H p = some (.dT ys)) : Tk H (upd H p o) := fun a xs e => by
  rw [upd_ne (ne_of e h (fun z => nomatch z))]; exact e
theorem Tk.new {H : Hp} {p : Addr} {o : HO} (h : H p = none) : Tk H (upd H p o) := fun a xs e => by
  rw [upd_ne (ne_of_none e h)]; exact e
theorem same_new {H : Hp} {p : Addr} {o : HO} (h : H p = none) : Same H (upd H p o) := fun b x e => by
  rw [upd_ne (ne_of_none e h)]; exact e
/-- an object that is newer than H changes -/
theorem same_upd {H H' : Hp} {p : Addr} {o : HO} (s : Same H H') (h : H p = none) : Same H (upd H' p o) := fun b x e => by
  rw [upd_ne (ne_of_none e h)]; exact s b x e

/-! ### two lists, place by place -/
structure Al {A B : Type} (R : A → B → Prop) (as : List A) (bs : List B) : Prop where
  len : as.length = bs.length
  each : ∀ (i : Nat) (a : A) (b : B), as[i]? = some a → bs[i]? = some b → R a b
section
variable {A B : Type} {R R' : A → B → Prop} {as : List A} {bs : List B}
theorem Al.nil : Al R [] [] := ⟨rfl, fun i a b h => by simp at h⟩
theorem Al.mono (h : Al R as bs) (f : ∀ a b, R a b → R' a b) : Al R' as bs := ⟨h.len, fun i a b h1 h2 => f a b (h.each i a b h1 h2)⟩
theorem Al.snoc {a : A} {b : B} (h : Al R as bs) (r : R a b) : Al R (as ++ [a]) (bs ++ [b]) := by
  refine ⟨by rw [List.length_append, List.length_append, h.len]; rfl, fun i x y h1 h2 => ?_⟩
  have hl := h.len
  by_cases hi : i < as.length
  · rw [List.getElem?_append_left hi] at h1
    rw [List.getElem?_append_left (by omega)] at h2
    exact h.each i x y h1 h2
  · rw [List.getElem?_append_right (by omega)] at h1 h2
    rw [hl] at h1
    cases hd : i - bs.length with
    | zero =>
      rw [hd] at h1 h2
      cases h1
      cases h2
      exact r
    | succ j =>
      rw [hd] at h1
      cases h1
theorem Al.get (h : Al R as bs) {i : Nat} {b : B} (e : bs[i]? = some b) : ∃ a, as[i]? = some a ∧ R a b := by
  have hi : i < as.length := by
    rw [h.len]
    exact (List.getElem?_eq_some_iff.mp e).1
  exact ⟨as[i], List.getElem?_eq_getElem hi, h.each i _ _ (List.getElem?_eq_getElem hi) e⟩
theorem Al.get' (h : Al R as bs) {i : Nat} {a : A} (e : as[i]? = some a) : ∃ b, bs[i]? = some b ∧ R a b := by
  have hi : i < bs.length := by
    rw [← h.len]
    exact (List.getElem?_eq_some_iff.mp e).1
  exact ⟨bs[i], List.getElem?_eq_getElem hi, h.each i _ _ e (List.getElem?_eq_getElem hi)⟩
end
theorem take_more {A : Type} {l : List A} {i : Nat} {x : A} (h : l[i]? = some x) : l.take (i + 1) = l.take i ++ [x] := by
  rw [List.take_add_one, h]; rfl

/-! ### numbers, references -/
def vn (l : List Nat) : List V := l.map fun (n : Nat) => V.int n
def rf (as : List Addr) : List V := as.map V.ref
theorem vn_len (l : List Nat) : (vn l).length = l.length := List.length_map _
theorem rf_len (l : List Addr) : (rf l).length = l.length := List.length_map _
theorem vn_at {l : List Nat} {i : Nat} {n : Nat} (h : l[i]? = some n) : (vn l)[i]? = some (.int n) := by
  unfold vn; rw [List.getElem?_map, h]; rfl
theorem vn_atD {l : List Nat} {i : Nat} (h : i < l.length) : (vn l)[i]? = some (.int (l.getD i 0 : Nat)) := by
  rw [List.getD_eq_getElem?_getD, List.getElem?_eq_getElem h]
  exact vn_at (List.getElem?_eq_getElem h)
theorem vn_inv {l : List Nat} {i : Nat} {v : V} (h : (vn l)[i]? = some v) : ∃ n, l[i]? = some n ∧ v = .int (n : Nat) := by
  unfold vn at h
  rw [List.getElem?_map] at h
  cases e : l[i]? with
  | none => rw [e] at h; cases h
  | some n => rw [e] at h; cases h; exact ⟨n, rfl, rfl⟩
theorem rf_at {l : List Addr} {i : Nat} {a : Addr} (h : l[i]? = some a) : (rf l)[i]? = some (.ref a) := by
  unfold rf; rw [List.getElem?_map, h]; rfl
theorem rf_inv {l : List Addr} {i : Nat} {v : V} (h : (rf l)[i]? = some v) : ∃ a, l[i]? = some a ∧ v = .ref a := by
  unfold rf at h
  rw [List.getElem?_map] at h
  cases e : l[i]? with
  | none => rw [e] at h; cases h
  | some n => rw [e] at h; cases h; exact ⟨n, rfl, rfl⟩
theorem rf_snoc (l : List Addr) (a : Addr) : rf l ++ [.ref a] = rf (l ++ [a]) := by unfold rf; rw [List.map_append]; rfl
theorem vn_snoc (l : List Nat) (a : Nat) : vn l ++ [.int a] = vn (l ++ [a]) := by unfold vn; rw [List.map_append]; rfl
theorem vn_app (l m : List Nat) : vn l ++ vn m = vn (l ++ m) := by unfold vn; rw [List.map_append]
def nis (l : List Nat) : List Int := l.map fun (n : Nat) => (n : Int)
theorem vn_nis (l : List Nat) : vn l = (nis l).map V.int := by unfold vn nis; rw [List.map_map]; rfl
theorem nis_sum : ∀ l : List Nat, (nis l).sum = ((l.sum : Nat) : Int)
  | [] => rfl
  | a :: l => by
    have ih := nis_sum l
    show ((a : Int) :: nis l).sum = _
    rw [List.sum_cons, List.sum_cons, ih]
    omega
/-- at a: the tuple of the numbers -/
def TupN (H : Hp) (a : Addr) (l : List Nat) : Prop := H a = some (.tup (vn l))
theorem TupN.keep {H H' : Hp} {a : Addr} {l : List Nat} (k : Tk H H') (h : TupN H a l) : TupN H' a l := k _ _ h
/-- .. as a key -/
def ky (l : List Nat) : List Key := l.map fun (n : Nat) => Sum.inl (n : Int)
theorem ky_kV (l : List Nat) : (ky l).map kV = vn l := by unfold ky vn; rw [List.map_map]; rfl
theorem ky_inj : ∀ {l m : List Nat}, ky l = ky m → l = m
  | [], [], _ => rfl
  | [], _ :: _, h => by cases h
  | _ :: _, [], h => by cases h
  | a :: l, b :: m, h => by
    have h' : (Sum.inl (a : Int) : Key) :: ky l = Sum.inl (b : Int) :: ky m := h
    injection h' with h1 h2
    have h3 : (a : Int) = b := Sum.inl.inj h1
    have h4 : a = b := by omega
    rw [h4, ky_inj h2]
theorem atI_at {xs : List V} {i : Nat} {v : V} (h : xs[i]? = some v) : atI xs (i : Int) = some v := atI_nat h

/-! ### sum of a tuple of nis -/
def rSumT (K : PySem.W.Frag) : List V → Hp → VK → Prop := fun vs H Q => ∃ (a : Addr) (ns : List Int), vs = [V.ref a] ∧ SqT K H a (ns.map V.int) ∧ Q (.int ns.sum) H
theorem cr_sumT {X : Cx} (hc : X.calm = true) : CallR X (.builtin "sum") (rSumT X.K) := by
  intro pins s σ H vs us Q I r h
  obtain ⟨a, ns, rfl, hs, q⟩ := h
  obtain ⟨its, rv, hl, _⟩ := I.tuple hs
  rw [Vals.ref1 r]
  have hi := rv.ints
  obtain ⟨xs, e⟩ := hi.allInts.items
  have hn : numsOf (intItems xs).toList = ns := by rw [← e]; exact hi.numsOf
  rw [nums_intItems] at hn
  have hl' : s.heap.IsTuple a (intItems xs) := by rw [← e]; exact hl
  refine PySem.W.ktm_sumG (I.ok.hd hc) hl' fun h' tk t' hk => ?_
  rw [preSum_eq, List.take_of_length_le (by simp), hn]
  exact ⟨.int _, H, I.kept hk, ⟨_, rfl⟩, q⟩

/-! ### {k: v} with one tuple for its key -/
def tDispT1 (tk tv : TE) : TE := fun σ H Q => ∀ p, H p = none → tk σ (upd H p (.dT [])) fun x H1 => tv σ H1 fun y H2 => H2 p = some (.dT []) ∧ ∃ (b : Addr) (k : List Key), x = .ref b ∧ H2 b = some (.tup (k.map kV)) ∧ Q (.ref p) (upd H2 p (.dT [(k, y)]))
theorem pe_dispT1 {X : Cx} {pos : Pos} {ke ve : Expr} {tk tv : TE} (hu : X.A.units + 1 < cLine) (hk : PE X ke tk) (hv : PE X ve tv) : PE X (.Dict [some ke] [ve] pos) (tDispT1 tk tv) := by
  refine ⟨fun pins s σ H Q I q => ?_⟩
  have hn := I.hok.fresh (Nat.le_refl s.heap.objs.size)
  have I1 := I.laid (a := s.heap.objs.size) (o := .dT []) (h' := s.heap.push { cls := .type "dict", data := .dict #[] }) (t' := s.toks) (fun _ _ q => Heap.get?_push_of_some _ q) (Nat.le_refl _) (dt_empty s.heap I.big)
  have hroom : (tupleKind (mixKind X.prog X.w)).room X.A := Nat.lt_of_succ_lt hu
  rw [arm_eval_Dict, zip_pairTrees [some ke] [ve] X.env pos rfl rfl, dictDisplay_pairs (pairTrees [some ke] [ve] X.env pos) (by intro z; cases z) (by show 1 < 17; decide)]
  refine wpAny_bind (wpAny_standAt (wpAny_bind (wpAny_subDictH (knd := tupleKind (mixKind X.prog X.w)) (Q := fun d s' => wpAny (model X.prog X.w) X.A (pure (Value.ref d)) (EP X pins σ Q) X.xe s') hroom (by show 1 ≤ 15; decide)
    (pairTrees_cons_walk (thn (hk.run pins _ σ _ _ I1 (q _ hn)) fun u s1 ⟨x, H1, I2, rx, q1⟩ => thn (hv.run pins s1 σ H1 _ I2 q1) fun r s2 ⟨y, H2, I3, ry, e, b, k, ex, eb, q2⟩ => pairTrees_nil_walk ?_)))))
  subst ex
  obtain rfl : u = Value.ref b := rx
  obtain ⟨z, hd, xs0, r0, dd⟩ := dt_of I3.hok e
  cases r0
  refine ⟨[(k, b, r)], ⟨rfl, rfl, key_of I3.hok eb, trivial⟩, dd, fun h' tk dd' hs => wpAny_pure ⟨.ref s.heap.objs.size, _, ?_, rfl, q2⟩⟩
  obtain ⟨o', es, ep, hq, h2, h3, h4, _, h5⟩ := dd'
  refine d_write (t' := tk) I3 (by rw [e]; exact True.intro) hs ⟨o', hq⟩ ⟨by rw [sizeLine_eq]; show 1 ≤ 16777216; decide, hd, [(k, b, r)], ?_, o', es, ep, hq, h2, h3, h4, h5⟩
  refine .cons ⟨rfl, ?_, ry⟩ .nil
  rw [upd_ne (ne_of eb e (fun z => nomatch z))]
  exact eb
end HP

namespace HP
open PySem PySem.Spec PyProof.Rows L2
/-! ### zip(a tuple, a list) -/
def ItzM (K : PySem.W.Frag) (a b : Addr) : It where
  go := fun i H => ∃ xs ys : List V, SqT K H a xs ∧ SqL K H b ys ∧ i < min xs.length ys.length
  yld := fun i H v H' => ∃ (T : Addr) (x y : V), v = .ref T ∧ H T = none ∧ H' = upd H T (.tup [x, y]) ∧ (∀ xs, SqT K H a xs → xs[i]? = some x) ∧ ∀ ys, SqL K H b ys → ys[i]? = some y
  stop := fun i H => ∃ xs ys : List V, SqT K H a xs ∧ SqL K H b ys ∧ i = min xs.length ys.length
/-- the five cells of such a zip, made at N -/
def StM (N a b : Addr) (i : Nat) (h : Heap) : Prop := IsZip h (N + 4) (N + 2) (N + 3) .none ∧ IsTupOf2 h (N + 2) (.ref N) (.ref (N + 1)) ∧ (∃ x y, IsTupOf2 h (N + 3) x y) ∧ h.IsTupleIter N a i ∧ h.IsListIter (N + 1) b i
abbrev fpM (N : Addr) : List Addr := [N + 4, N + 2, N + 3, N, N + 1]
theorem mem_fpM {N c : Addr} (h : c ∈ fpM N) : c = N + 4 ∨ c = N + 2 ∨ c = N + 3 ∨ c = N ∨ c = N + 1 := by simpa using h
theorem StM.obj {N a b c : Addr} {i : Nat} {h : Heap} (st : StM N a b i h) (hc : c ∈ fpM N) : ∃ o, h.get? c = some o ∧ ∀ v, o.data ≠ .cell v := by
  obtain ⟨hz, hT, ⟨x, y, hO⟩, ⟨o1, e1, _, d1⟩, ⟨o2, e2, _, d2⟩⟩ := st
  rcases mem_fpM hc with e | e | e | e | e
  · rw [e]; exact ⟨_, hz, fun v z => nomatch z⟩
  · rw [e]; exact ⟨_, hT, fun v z => nomatch z⟩
  · rw [e]; exact ⟨_, hO, fun v z => nomatch z⟩
  · rw [e]; exact ⟨o1, e1, fun v z => by rw [d1] at z; cases z⟩
  · rw [e]; exact ⟨o2, e2, fun v z => by rw [d2] at z; cases z⟩
theorem turn_zipM {P : Program} {w : World} {K : PySem.W.Frag} {elts : List Expr} {kk : Nat} {tpos : Pos} {a b N : Addr} (ha : a < N) (hb : b < N) :
    Turn P w K (.Tuple elts kk tpos) (ItzM K a b) (fpM N) (N + 4) (StM N a b) where
  mem := by simp
  obj := fun i h st c hc => st.obj hc
  keep := fun i h h' st k => by
    obtain ⟨hz, hT, ⟨x, y, hO⟩, h1, h2⟩ := st
    refine ⟨k (N + 4) (by simp) _ hz, k (N + 2) (by simp) _ hT, ⟨x, y, k (N + 3) (by simp) _ hO⟩, h1.at fun o q => ?_, h2.at fun o q => ?_⟩
    · exact k N (by simp) o q
    · exact k (N + 1) (by simp) o q
  item := by
    intro X hP hw hK hc i pins s σ H E I hf st hg
    subst hP hw hK
    obtain ⟨hz, hT, hO, h1, h2⟩ := id st
    obtain ⟨xs, ys, hqx, hqy, hlt⟩ := hg
    obtain ⟨its, rv, p, _⟩ := I.tuple hqx
    obtain ⟨its2, rv2, p2, _⟩ := I.list hqy
    have l1 := rv.length
    have l2 := rv2.length
    have hh : X.A.in1.handled = none := I.ok.hd hc
    have S := zip_sep2 (N := N) (fp1 := [a]) (fp2 := [b]) (by simpa using ha) (by simpa using hb)
    have W := GoesN.zip2 (prog := X.prog) (w := X.w) (A := X.A) (elts := elts) (x1 := kk) (pos := tpos) S (Draws.tuple hh N a (Nat.ne_of_lt ha) its.toArray) (Draws.list hh (N + 1) b (Nat.ne_of_lt (Nat.lt_succ_of_lt hb)) its2.toArray)
    have hi : i < min its.toArray.size its2.toArray.size := by
      rw [List.size_toArray, List.size_toArray]; omega
    refine W.goes i s (fun v s2 => ∃ x H', Inv X pins σ H' s2 ∧ RelV x v ∧ (ItzM X.K a b).yld i H x H' ∧ StM N a b (i + 1) s2.heap ∧ ∀ c ∈ fpM N, H' c = none) E hi ⟨hz, hT, hO, ⟨h1, p⟩, ⟨h2, p2.isList⟩⟩ fun v h' tk hY st' hk htk => ?_
    obtain ⟨T0, x, y, rfl, hsz, hx, hy, hTT⟩ := hY
    have hx' : its[i]? = some x := by simpa using hx
    have hy' : its2[i]? = some y := by simpa using hy
    have i1 : i < xs.length := by omega
    have i2 : i < ys.length := by omega
    have gx : xs[i]? = some xs[i] := List.getElem?_eq_getElem i1
    have gy : ys[i]? = some ys[i] := List.getElem?_eq_getElem i2
    obtain ⟨u, hu, ru⟩ := rv.get gx
    obtain ⟨u2, hu2, ru2⟩ := rv2.get gy
    rw [hx'] at hu
    rw [hy'] at hu2
    cases hu
    cases hu2
    have hn : H T0 = none := I.hok.fresh hsz
    have new : ObjOk X.prog X.w (upd H T0 (.tup [xs[i], ys[i]])) h' T0 (.tup [xs[i], ys[i]]) := ⟨by show 2 ≤ sizeLine; decide, [x, y], .cons ru (.cons ru2 .nil), hTT⟩
    have I1 : Inv X pins σ (upd H T0 (.tup [xs[i], ys[i]])) { s with heap := h', toks := tk } := by
      refine I.turnedNew (t' := tk) (ch := fpM N) (fun c o hc' q => hk c o (fun hm => hc' ?_) q) hf hsz new
      simp only [List.mem_cons, List.not_mem_nil, or_false] at hm ⊢
      rcases hm with e | e | e | e
      · exact .inl e
      · exact .inr (.inr (.inl e))
      · exact .inr (.inr (.inr (.inl e)))
      · exact .inr (.inr (.inr (.inr e)))
    obtain ⟨z', T', O', q1, q2⟩ := st'
    refine ⟨.ref T0, _, I1, rfl, ⟨T0, _, _, rfl, hn, rfl, fun l hl => by rw [I.tuple_inj hl hqx]; exact gx, fun l hl => by rw [I.list_inj hl hqy]; exact gy⟩, ⟨z', T', O', q1.1, q2.1⟩, fun c hcm => ?_⟩
    obtain ⟨o, ho, _⟩ := st.obj hcm
    rw [upd_ne (Nat.ne_of_lt (Nat.lt_of_lt_of_le (Heap.lt_size ho) hsz))]
    exact (hf c hcm).1
  done := by
    intro X hP hw hK hc i pins s σ H E I hf st hg
    subst hP hw hK
    obtain ⟨hz, hT, hO, h1, h2⟩ := id st
    obtain ⟨xs, ys, hqx, hqy, rfl⟩ := hg
    obtain ⟨its, rv, p, _⟩ := I.tuple hqx
    obtain ⟨its2, rv2, p2, _⟩ := I.list hqy
    have hh : X.A.in1.handled = none := I.ok.hd hc
    have S := zip_sep2 (N := N) (fp1 := [a]) (fp2 := [b]) (by simpa using ha) (by simpa using hb)
    have W := GoesN.zip2 (prog := X.prog) (w := X.w) (A := X.A) (elts := elts) (x1 := kk) (pos := tpos) S (Draws.tuple hh N a (Nat.ne_of_lt ha) its.toArray) (Draws.list hh (N + 1) b (Nat.ne_of_lt (Nat.lt_succ_of_lt hb)) its2.toArray)
    have en : min its.toArray.size its2.toArray.size = min xs.length ys.length := by
      rw [List.size_toArray, List.size_toArray, ← rv.length, ← rv2.length]
    rw [en] at W
    refine W.stops s (fun s1 => Inv X pins σ H s1) E ⟨hz, hT, hO, ⟨h1, p⟩, ⟨h2, p2.isList⟩⟩ fun h' tk hk htk => ?_
    refine I.turnedL (t' := tk) (ch := fpM N) (fun c o hc' q => hk c o (fun hm => hc' ?_) q) hf
    simp only [List.mem_cons, List.not_mem_nil, or_false] at hm ⊢
    rcases hm with e | e | e | e
    · exact .inl e
    · exact .inr (.inr (.inl e))
    · exact .inr (.inr (.inr (.inl e)))
    · exact .inr (.inr (.inr (.inr e)))
  self := fun A i s Q E st h => wpAny_pyIter_zip st.1 h
def iZipM (K : PySem.W.Frag) (ta : TA) : TI := fun σ H R => ta σ H fun vs H1 => ∃ (a b : Addr) (xs ys : List V), vs = [.ref a, .ref b] ∧ SqT K H1 a xs ∧ SqL K H1 b ys ∧ R (ItzM K a b) H1
theorem pi_zipM {X : Cx} {e e2 : Expr} {ta : TA} {p pos tpos : Pos} {elts : List Expr} {kk : Nat} (hg : Gl X "zip") (hm : X.mg "zip" = none) (ha : PA X [e, e2] ta)
    (hs : starEach [e, e2] X.env = (false, eval e X.env) :: starEach [e2] X.env := by rfl) (hpl : (backTo pos (starEach [e2] X.env)).any (·.1) = false := by rfl) :
    PI X (.Tuple elts kk tpos) (.Call (.Name "zip" p) [e, e2] [] pos) (iZipM X.K ta) := by
  refine ⟨fun pins s σ H R I h => Call_ (ld_blt I hg hm PyProof.Rows.boot_zip ?_)⟩
  refine PyProof.Rows.callWith_type1 ?_ hs hpl
  refine thn (ha.run pos pins s σ H _ I h) fun us s1 ⟨vs, H1, I1, r1, a, b, xs, ys, ex, hqx, hqy, q⟩ => ?_
  subst ex
  cases r1 with
  | cons ra rr =>
    cases rr with
    | cons rb rr =>
      cases rr
      cases ra
      cases rb
      obtain ⟨its, rv, p1, _⟩ := I1.tuple hqx
      obtain ⟨its2, rv2, p2, _⟩ := I1.list hqy
      have la : a < s1.heap.objs.size := p1.lt
      have lb : b < s1.heap.objs.size := p2.lt
      refine zip_begins2 (begins_tuple a its.toArray) (begins_list b its2.toArray) p1 p2.isList fun h' hz hT hO g1 g2 hsz hk => wpAny_pyIter_zip hz ?_
      have I2 : Inv X pins σ H1 { s1 with heap := h' } := I1.kept (t' := s1.toks) hk
      refine ⟨s1.heap.objs.size + 4, fpM s1.heap.objs.size, StM s1.heap.objs.size a b, _, H1, rfl, I2, turn_zipM la lb, ⟨hz, hT, ⟨_, _, hO⟩, ⟨_, g1, rfl, rfl⟩, ⟨_, g2, rfl, rfl⟩⟩, fun c hcm => ?_, q⟩
      have hle : s1.heap.objs.size ≤ c := by
        rcases mem_fpM hcm with z | z | z | z | z
        · rw [z]; exact Nat.le_add_right _ _
        · rw [z]; exact Nat.le_add_right _ _
        · rw [z]; exact Nat.le_add_right _ _
        · rw [z]; exact Nat.le_refl _
        · rw [z]; exact Nat.le_add_right _ _
      exact I1.fpOk hle (I1.hok.fresh hle)
theorem walk_zipM {K : PySem.W.Frag} {a b : Addr} {xs ys : List V} {n : Nat} (h1 : xs.length = n) (h2 : ys.length = n) : Walk (ItzM K a b) n (fun H => SqT K H a xs ∧ SqL K H b ys) (YPair (fun i => xs[i]?) (fun i => ys[i]?)) := by
  refine ⟨fun i _ hi q => ⟨xs, ys, q.1, q.2, by omega⟩, fun _ q => ⟨xs, ys, q.1, q.2, by omega⟩, fun i H v H' _ q y => ?_⟩
  obtain ⟨T0, x, z, e1, e2, e3, e4, e5⟩ := y
  exact ⟨T0, x, z, e1, e2, e3, e4 xs q.1, e5 ys q.2⟩
end HP

namespace HP
open PySem PySem.Spec PyProof.Rows L2

/-! ### the text -/
def top (i : Nat) : Stmt := PySem.Challenge.pw_halvedpebbles_s05_weight_at.main.body.getD i (.Pass ⟨0, 0, 0, 0⟩)
abbrev sInit : Stmt := inClass (top 3) 0
abbrev s_need : Stmt := top 4
abbrev s_pairs_of : Stmt := top 8
abbrev s_are_edges : Stmt := top 9
abbrev s_neighbours_of : Stmt := top 10
abbrev s_read_graph : Stmt := top 11
abbrev s_read_pebbles : Stmt := top 12
abbrev s_need_target : Stmt := top 13
abbrev s_distances : Stmt := top 18
abbrev s_sixteenths_at : Stmt := top 19
abbrev s_lowest_terms : Stmt := top 20
abbrev s_weight : Stmt := top 21
abbrev s_told_weight : Stmt := top 23
abbrev s_weight_at : Stmt := top 25
/-- a def of the text, found by its name -/
def Dk (K : PySem.W.Frag) (mg : Str → Option Value) (x : Str) (st : Stmt) (ps : List Str) : Prop := ∃ (f : Addr) (fd : FuncData), mg x = some (.ref f) ∧ Fun K x x st f fd ∧ Binds K fd ps []
/-- a whole number that the top has written -/
def Ck (mg : Str → Option Value) (x : Str) (i : Int) : Prop := ∃ t, mg x = some (.int i t)
/-- the class of refusals -/
structure Rk (K : PySem.W.Frag) (mg : Str → Option Value) (C fI : Addr) : Prop where
  gC : mg "Refused" = some (.ref C)
  ox : OexC K C
  iC : PySem.W.findIn K (.ref C) "__init__" = some (some (.ref fI))
  tI : PySem.W.typeIn K (.ref fI) = some (.type "function")
  noC : PySem.W.findIn K (.ref C) "code" = some none
  vV : PySem.W.findCls K (.type "ValueError") (.type "type") "__init__" = some (.val (.builtin "ValueError.__init__"))
  xf : XfC K C
  te : PySem.W.exmOne K (.ref C) (.ref C) = some true
  ini : ∃ fd : FuncData, Fun K "__init__" "Refused.__init__" sInit fI fd ∧ Binds K fd ["self", "code"] []
/-- what the top has written -/
structure Txt (K : PySem.W.Frag) (mg : Str → Option Value) (C fI : Addr) : Prop where
  rk : Rk K mg C fI
  d_need : Dk K mg "need" s_need ["truth", "code"]
  d_pairs_of : Dk K mg "pairs_of" s_pairs_of ["row"]
  d_are_edges : Dk K mg "are_edges" s_are_edges ["vertex_count", "edges"]
  d_neighbours_of : Dk K mg "neighbours_of" s_neighbours_of ["vertex", "pairs"]
  d_read_graph : Dk K mg "read_graph" s_read_graph ["vertex_count", "edges"]
  d_read_pebbles : Dk K mg "read_pebbles" s_read_pebbles ["graph", "pebbles"]
  d_need_target : Dk K mg "need_target" s_need_target ["graph", "target"]
  d_distances : Dk K mg "distances" s_distances ["graph", "target"]
  d_sixteenths_at : Dk K mg "sixteenths_at" s_sixteenths_at ["graph", "configuration", "target"]
  d_lowest_terms : Dk K mg "lowest_terms" s_lowest_terms ["numerator", "denominator"]
  d_weight : Dk K mg "weight" s_weight ["graph", "configuration", "target"]
  d_told_weight : Dk K mg "told_weight" s_told_weight ["vertex_count", "target", "edges", "pebbles"]
  d_weight_at : Dk K mg "weight_at" s_weight_at ["vertex_count", "target", "edges", "pebbles"]
  c_NO_TARGET : Ck mg "NO_TARGET" (-2)
  c_OUT_OF_LIMITS : Ck mg "OUT_OF_LIMITS" (-22)
  c_MOST_VERTICES : Ck mg "MOST_VERTICES" 5
  c_MOST_PEBBLES : Ck mg "MOST_PEBBLES" 12
  c_FAR : Ck mg "FAR" (-1)
  c_SIXTEENTHS : ∃ a : Addr, mg "SIXTEENTHS" = some (.ref a) ∧ ∀ H : Hp, SqT K H a [.int 16, .int 8, .int 4, .int 2, .int 1]
  c_WHOLE : Ck mg "WHOLE" 16
  m_len : mg "len" = none
  m_range : mg "range" = none
  m_all : mg "all" = none
  m_zip : mg "zip" = none
  m_tuple : mg "tuple" = none
  m_sum : mg "sum" = none
  m_ValueError : mg "ValueError" = none
end HP

namespace HP
open PySem PySem.Spec PyProof.Rows L2
section
variable {P : Program} {w : World} {K : PySem.W.Frag} {mg : Str → Option Value} {base : Heap} {C fI : Addr}

/-! ### Refused.__init__ -/
theorem sc_init : FnScope ["self", "code"] ["self", "code"] (defScope sInit) := ⟨rfl, rfl, rfl, by decide +kernel, rfl, by decide +kernel, by decide +kernel⟩
def spInit (C : Addr) : Sp := fun vs H Q _ => ∃ (a : Addr) (c : Int), vs = [.ref a, .int c] ∧ H a = some (exo a C none) ∧
  ∀ dx, H dx = none → dx ≠ a → Q .non (upd (upd H dx (exd dx [("code", .int c)])) a (exo a C (some dx)))
theorem ok_init (T : Rk K mg C fI) (mV : mg "ValueError" = none) {fd : FuncData} (F : Fun K "__init__" "Refused.__init__" sInit fI fd) : FnOk P w K mg base CX0 1 fI fd ["self", "code"] (spInit C) := by
  refine F.ok sc_init (fun vs H Q E h => ?_) (fun cdv A outer s H vs Q E hr h => ?_)
  · obtain ⟨a, c, rfl, _⟩ := h
    rfl
  · obtain ⟨a, c, rfl, ha, q⟩ := h
    refine ⟨_, pss_cons (ps_expr (pe_veinit (by rfl) mV T.vV (pa_cons (pv 0) (pa_cons pe_str pa_nil)))) (pss_one (ps_ost (pv 0) (pv 1))), ?_⟩
    refine ⟨_, rfl, a, C, [.str "refused"], rfl, by show 1 ≤ 1000; decide, T.ox, ha, ?_⟩
    exact ⟨_, rfl, _, rfl, a, C, rfl, T.ox, T.noC, Or.inl ⟨ha, fun dx n ne => q dx n ne⟩⟩

/-! ### need -/
theorem sc_need : FnScope ["truth", "code"] ["truth", "code"] (defScope s_need) := ⟨rfl, rfl, rfl, by decide +kernel, rfl, by decide +kernel, by decide +kernel⟩
/-- what a refusal leaves: H stands, the error's own dict tells the code -/
def RefE (C : Addr) (H : Hp) (c : Int) (E : XK) : Prop := ∀ (d : Addr) (H' : Hp), Same H H' → H' d = some (.xd [(("code" : Str), .int c)]) → E (.ref C) (some d) H'
def spNeed (C : Addr) : Sp := fun vs H Q E => ∃ (t : Bool) (c : Int), vs = [.bl t, .int c] ∧ (t = true → Q .non H) ∧ (t = false → RefE C H c E)
theorem ok_need (T : Rk K mg C fI) (mV : mg "ValueError" = none) {f : Addr} {fd : FuncData} (F : Fun K "need" "need" s_need f fd) : FnOk P w K mg base (L2.CX P w) 3 f fd ["truth", "code"] (spNeed C) := by
  obtain ⟨fdI, FI, bI⟩ := T.ini
  have GI : FnOk P w K mg base CX0 1 fI fdI ["self", "code"] (spInit C) := ok_init T mV FI
  refine F.okX sc_need (fun vs H Q E h => ?_) (fun cdv A outer s H vs Q E hr h => ?_)
  · obtain ⟨t, c, rfl, _⟩ := h
    rfl
  · obtain ⟨t, c, rfl, q1, q2⟩ := h
    refine ⟨_, pss_one (ps_if (pt_not (pt_val (pv 0))) (pss_one (ps_raise rfl (takes_of rfl rfl rfl rfl) (pmk_oex T.ox T.iC T.tI GI hr bI .nil pass0 (by rfl) T.gC (pa_cons (pv 1) pa_nil)))) pss_nil), ?_⟩
    refine ⟨_, rfl, t, rfl, ?_⟩
    cases t with
    | true => exact iteF (q1 rfl)
    | false =>
      refine iteT ⟨_, rfl, by show 1 ≤ 1000; decide, fun a na => ⟨a, c, rfl, upd_same, fun dx n ne => ⟨rfl, dx, [(("code" : Str), .int c)], upd_same, ?_, ?_, ?_⟩⟩⟩
      · rw [upd_ne ne]; exact upd_same
      · rw [upd_ne ne] at n; exact n
      · have n' : H dx = none := by rw [upd_ne ne] at n; exact n
        refine q2 rfl dx _ (fun b o e => ?_) upd_same
        rw [upd_ne (ne_of_none e n'), del_ne (ne_of_none e na), upd_ne (ne_of_none e na), upd_ne (ne_of_none e n'), upd_ne (ne_of_none e na)]
        exact e
end
end HP

namespace HP
open PySem PySem.Spec PyProof.Rows L2
theorem rg2 : ∀ h : Nat, h < 64 → Builtin.Range.small 0 (2 * (h : Int)) 2 = true ∧ Builtin.Range.rangeSize 0 (2 * (h : Int)) 2 = (h : Int) := by decide +kernel
theorem rgc2 {h : Nat} (hh : h < 64) : RgC 0 (2 * (h : Int)) 2 h := ⟨by decide, by decide, (rg2 h hh).1, (rg2 h hh).2⟩
theorem sl_small {n : Nat} (h : n ≤ 1000000) : n < sizeLine := Nat.lt_of_le_of_lt h (by rw [sizeLine_eq]; decide)
theorem sl_le {n : Nat} (h : n ≤ 1000000) : n ≤ sizeLine := Nat.le_of_lt (sl_small h)
/-- a pair of numbers at a -/
def PairN (H : Hp) (a : Addr) (q : Nat × Nat) : Prop := TupN H a [q.1, q.2]
theorem lexLt_pair (p q : Nat × Nat) : HT.lexLt [(p.1 : Int), (p.2 : Int)] [(q.1 : Int), (q.2 : Int)] = lx p q := by
  rw [HT.lexLt_cons, HT.lexLt_cons, HT.lexLt_nil_nil]
  unfold lx
  by_cases h : p.1 = q.1
  · rw [if_pos (by omega)]
    by_cases h2 : p.2 = q.2
    · rw [if_pos (by omega)]
      simp [h, h2]
    · rw [if_neg (by omega)]
      rw [Bool.eq_iff_iff]
      simp [h]
  · rw [if_neg (by omega)]
    rw [Bool.eq_iff_iff]
    simp [h]
theorem yes_if {σ : L2.St} {H : Hp} {A B : Hp → Prop} (h : A H) : tYes σ H fun b H3 => if b = true then A H3 else B H3 := by
  show (if true = true then A H else B H)
  rw [if_pos rfl]; exact h
section
variable {P : Program} {w : World} {K : PySem.W.Frag} {mg : Str → Option Value} {base : Heap} {C fI : Addr}

/-! ### pairs_of -/
theorem sc_pairs_of : FnScope ["row", "place"] ["row"] (defScope s_pairs_of) := ⟨rfl, rfl, rfl, by decide +kernel, rfl, by decide +kernel, by decide +kernel⟩
def spPairs (K : PySem.W.Frag) : Sp := fun vs H Q _ => ∃ (a : Addr) (row : List Nat), vs = [.ref a] ∧ SqL K H a (vn row) ∧ row.length % 2 = 0 ∧ row.length ≤ 100 ∧
  ∀ (H' : Hp) (p : Addr) (as : List Addr), Same H H' → H p = none → H' p = some (.lst (rf as)) → Al (PairN H') as (prs row) → Q (.ref p) H'
theorem ok_pairs_of (T : Txt K mg C fI) {f : Addr} {fd : FuncData} (F : Fun K "pairs_of" "pairs_of" s_pairs_of f fd) : FnOk P w K mg base CX0 1 f fd ["row"] (spPairs K) := by
  refine F.ok sc_pairs_of (fun vs H Q E h => ?_) (fun cdv A outer s H vs Q E hr h => ?_)
  · obtain ⟨a, c, rfl, _⟩ := h
    rfl
  · obtain ⟨a, row, rfl, hS, hev, hlen, q⟩ := h
    refine ⟨_, pss_one (ps_ret (pe_lc (own := [("place", 1)]) (g := gName 1) (tt := tYes) (te := tTup (tCons (tOp (rIxL K) (tVar 0) (tVar 1)) (tCons (tOp (rIxL K) (tVar 0) (tOp (rI0 fun i j => .int (i + j)) (tVar 1) (tC (.int 1)))) tNil))) rfl sc_pairs_of.nd
      (pi_range3 (by rfl) T.m_range (pa_cons pe_int (pa_cons (pe_callB call_len_seq (by rfl) T.m_len PySem.boot_len (pa_cons (pv 0) pa_nil)) (pa_cons pe_int pa_nil))))
      (blkOk_by (N := ["row", "place"]) (sc := defScope s_pairs_of) (by decide +kernel)) (fun _ _ _ _ _ => pg_name (i := 1) sc_pairs_of.nd rfl (Or.inl rfl)) (fun _ _ _ _ _ => pts_nil)
      (fun _ _ _ _ _ => pe_tup (pa_cons (pe_ix ix_list (pv 0) (pv 1) (fun _ _ => rfl)) (pa_cons (pe_ix ix_list (pv 0) (pe_op op_add (pv 1) pe_int) (fun _ _ => rfl)) pa_nil))))), ?_⟩
    obtain ⟨h, eh⟩ : ∃ h, row.length = 2 * h := ⟨row.length / 2, by omega⟩
    have hpl : (prs row).length = h := by have := prs_len row hev; omega
    refine ⟨_, rfl, a, vn row, rfl, .inl hS, 0, 2 * (h : Int), 2, h, ?_, rgc2 (by omega), fun D nD => ?_⟩
    · rw [vn_len, eh]
      show [V.int 0, V.int ((2 * h : Nat) : Int), V.int 2] = _
      rw [Int.natCast_mul]; rfl
    refine lc_it walk_rangeC (fun i H' => Same H H' ∧ ∃ as, H' D = some (.lst (rf as)) ∧ Al (PairN H') as ((prs row).take i)) ⟨same_new nD, [], upd_same, .nil⟩ (fun _ _ _ _ => trivial) ?_ ?_
    · rintro i x H1 H2 hi ⟨sm, as, hD, al⟩ ⟨rfl, ex⟩
      have i1 : 2 * i < row.length := by omega
      have i2 : 2 * i + 1 < row.length := by omega
      have e1 : (0 : Int) + (i : Nat) * 2 = ((2 * i : Nat) : Int) := by omega
      have e2 : ((2 * i : Nat) : Int) + 1 = ((2 * i + 1 : Nat) : Int) := by omega
      have ex : x = .int ((2 * i : Nat) : Int) := by rw [← e1]; exact ex
      subst ex
      refine ⟨rfl, yes_if ?_⟩
      refine ⟨_, rfl, _, rfl, a, vn row, _, .int (row.getD (2 * i) 0 : Nat), rfl, rfl, sm.seq hS, atI_at (vn_atD i1), ?_⟩
      refine ⟨_, rfl, _, rfl, _, _, rfl, rfl, a, vn row, _, .int (row.getD (2 * i + 1) 0 : Nat), rfl, rfl, sm.seq hS, (by rw [e2]; exact atI_at (vn_atD i2)), ?_⟩
      refine ⟨(by show 2 ≤ sizeLine; decide), fun t nt => ?_⟩
      refine ⟨rf as, ?_, ?_, ?_⟩
      · rw [upd_ne (ne_of_none hD nt)]; exact hD
      · rw [rf_len, al.len, List.length_take]
        exact sl_small (by omega)
      · have k1 : Tk H2 (upd H2 t (.tup [.int (row.getD (2 * i) 0 : Nat), .int (row.getD (2 * i + 1) 0 : Nat)])) := .new nt
        have k2 : Tk (upd H2 t (.tup [.int (row.getD (2 * i) 0 : Nat), .int (row.getD (2 * i + 1) 0 : Nat)])) (upd (upd H2 t (.tup [.int (row.getD (2 * i) 0 : Nat), .int (row.getD (2 * i + 1) 0 : Nat)])) D (.lst (rf as ++ [.ref t]))) :=
          .lst (by rw [upd_ne (ne_of_none hD nt)]; exact hD)
        refine ⟨same_upd (fun b o e => same_new nt b o (sm b o e)) nD, as ++ [t], by rw [upd_same, rf_snoc], ?_⟩
        rw [prs_take row i i2]
        refine (al.mono fun a b h => (h.keep k1).keep k2).snoc ?_
        exact k2 _ _ upd_same
    · rintro H1 ⟨sm, as, hD, al⟩
      rw [show (prs row).take h = prs row from List.take_of_length_le (by omega)] at al
      exact q H1 D as sm nD hD al
end
end HP

namespace HP
open PySem PySem.Spec PyProof.Rows L2
theorem cut_one (xs : List V) : cutV xs (some 1) none = xs.drop 1 := by
  unfold cutV
  rw [show HT.sIx xs.length 0 (some 1) = min 1 xs.length from HT.sIx_nat xs.length 0 1, HT.sIx_none]
  cases xs with
  | nil => rfl
  | cons x r =>
    rw [show min 1 (x :: r).length = 1 by rw [List.length_cons]; omega]
    show (List.take ((x :: r).length - 1) r) = r
    rw [List.length_cons, Nat.add_sub_cancel]
    exact List.take_length
def okp (n : Nat) (p : Nat × Nat) : Bool := decide (p.1 < p.2) && decide (p.2 < n)
theorem inside_eq (n : Nat) (ps : List (Nat × Nat)) : inside n ps = (ps.map (okp n)).all id := by
  unfold inside; rw [List.all_map]; rfl
def lxs (ps : List (Nat × Nat)) : List Bool := (ps.zip (ps.drop 1)).map fun q => lx q.1 q.2
theorem rising_eq (ps : List (Nat × Nat)) : rising ps = (lxs ps).all id := by
  unfold rising lxs; rw [List.all_map]; rfl
theorem bl_snoc (bs : List Bool) (b : Bool) : bs.map V.bl ++ [V.bl b] = (bs ++ [b]).map V.bl := by rw [List.map_append]; rfl
section
variable {P : Program} {w : World} {K : PySem.W.Frag} {mg : Str → Option Value} {base : Heap} {C fI : Addr}

/-! ### are_edges -/
theorem sc_are_edges : FnScope ["vertex_count", "edges", "pairs", "one", "other", "before", "pair"] ["vertex_count", "edges"] (defScope s_are_edges) := ⟨rfl, rfl, rfl, by decide +kernel, rfl, by decide +kernel, by decide +kernel⟩
def spEdges (K : PySem.W.Frag) : Sp := fun vs H Q _ => ∃ (a : Addr) (n : Nat) (row : List Nat), vs = [.int n, .ref a] ∧ SqL K H a (vn row) ∧ row.length ≤ 100 ∧
  ∀ (H' : Hp), Same H H' → Q (.bl (edgesOk n row)) H'
theorem ok_are_edges (T : Txt K mg C fI) {f : Addr} {fd : FuncData} (F : Fun K "are_edges" "are_edges" s_are_edges f fd) : FnOk P w K mg base CX0 2 f fd ["vertex_count", "edges"] (spEdges K) := by
  obtain ⟨fP, fdP, gP, FP, bP⟩ := T.d_pairs_of
  have GP : FnOk P w K mg base CX0 1 fP fdP ["row"] (spPairs K) := ok_pairs_of T FP
  refine F.ok sc_are_edges (fun vs H Q E h => ?_) (fun cdv A outer s H vs Q E hr h => ?_)
  · obtain ⟨a, n, row, rfl, _⟩ := h
    rfl
  · obtain ⟨a, n, row, rfl, hS, hlen, q⟩ := h
    have nd := sc_are_edges.nd
    refine ⟨_, pss_cons (ps_if (pt_cmpR op_ne (pe_op op_mod (pe_callB call_len_seq (by rfl) T.m_len PySem.boot_len (pa_cons (pv 1) pa_nil)) pe_int) pe_int (nomark _)) (pss_one (ps_ret pe_bl)) pss_nil)
      (pss_cons (ps_set (i := 2) nd rfl (.inl rfl) (pe_call GP hr (by rfl) gP FP.kp bP .nil pass0 (pa_cons (pv 1) pa_nil)))
      (pss_cons (ps_if (pt_not (pt_val (pe_callB (cr_all rfl) (by rfl) T.m_all (by decide +kernel) (pa_cons
          (pe_lc (own := [("one", 3), ("other", 4)]) (g := gTup K 2 (gCons (gName 3) (gCons (gName 4) gNil))) (tt := tYes) (te := tChain (rI0 fun i j => .bl (decide (i < j))) (rI0 fun i j => .bl (decide (i < j))) (tVar 3) (tVar 4) (tVar 0)) rfl nd (pi_list (pv 2))
            (blkOk_by (N := ["vertex_count", "edges", "pairs", "one", "other", "before", "pair"]) (sc := defScope s_are_edges) (by decide +kernel))
            (fun _ _ _ _ _ => pg_tup rfl (pgs_cons (pg_name (i := 3) nd rfl (Or.inl rfl)) (pgs_cons (pg_name (i := 4) nd rfl (Or.inl rfl)) pgs_nil))) (fun _ _ _ _ _ => pts_nil)
            (fun _ _ _ _ _ => pe_chain op_lt op_lt (pv 3) (pv 4) (pv 0))) pa_nil)))) (pss_one (ps_ret pe_bl)) pss_nil)
      (pss_one (ps_ret (pe_callB (cr_all rfl) (by rfl) T.m_all (by decide +kernel) (pa_cons
          (pe_lc (own := [("before", 5), ("pair", 6)]) (g := gTup K 2 (gCons (gName 5) (gCons (gName 6) gNil))) (tt := tYes) (te := tOp (rLtT K) (tVar 5) (tVar 6)) rfl nd
            (pi_zip (by rfl) T.m_zip (pa_cons (pv 2) (pa_cons (pe_slice sl_list (pv 2) (po_some pe_int) po_none) pa_nil)))
            (blkOk_by (N := ["vertex_count", "edges", "pairs", "one", "other", "before", "pair"]) (sc := defScope s_are_edges) (by decide +kernel))
            (fun _ _ _ _ _ => pg_tup rfl (pgs_cons (pg_name (i := 5) nd rfl (Or.inl rfl)) (pgs_cons (pg_name (i := 6) nd rfl (Or.inl rfl)) pgs_nil))) (fun _ _ _ _ _ => pts_nil)
            (fun _ _ _ _ _ => pe_cmpR (op_ltT hr.units0) (pv 5) (pv 6) (nomark _))) pa_nil)))))), ?_⟩
    -- the length
    refine ⟨_, rfl, a, vn row, rfl, .inl hS, _, _, rfl, rfl, (by show (0 : Int) < 2; decide), rfl, _, rfl, ?_⟩
    rw [vn_len]
    by_cases hev : row.length % 2 = 0
    · have e0 : (!decide (V.int (((row.length : Nat) : Int) % 2) = V.int 0)) = false := by
        have e : ((row.length : Nat) : Int) % 2 = 0 := by omega
        rw [e]; simp
      rw [e0]
      refine iteF ?_
      refine ⟨_, rfl, a, row, rfl, hS, hev, hlen, fun H1 p as sm1 np hp al => ?_⟩
      have hlas : as.length = (prs row).length := al.len
      -- the first row of answers
      refine ⟨_, rfl, p, rfl, ⟨_, .of hp⟩, fun D nD => ?_⟩
      refine lc_list (K := K) (a := p) (xs := rf as) (fun i H' => Same H1 H' ∧ H' D = some (.lst ((((prs row).take i).map (okp n)).map V.bl))) ⟨same_new nD, upd_same⟩ (fun i H' _ h => h.1.seq (.of hp)) ?_ ?_
      · rintro i x H' hx ⟨sm, hD⟩
        obtain ⟨t, ht, rfl⟩ := rf_inv hx
        obtain ⟨e, he, pn⟩ := al.get' ht
        have pn' : H' t = some (.tup (vn [e.1, e.2])) := sm _ _ pn
        refine ⟨t, vn [e.1, e.2], rfl, .of pn', rfl, _, _, rfl, _, _, rfl, rfl, rfl, yes_if ?_⟩
        have step : ∃ acc, H' D = some (.lst acc) ∧ acc.length < sizeLine ∧ (Same H1 (upd H' D (.lst (acc ++ [V.bl (okp n e)]))) ∧ upd H' D (.lst (acc ++ [V.bl (okp n e)])) D = some (.lst ((((prs row).take (i + 1)).map (okp n)).map V.bl))) := by
          refine ⟨_, hD, ?_, same_upd sm nD, ?_⟩
          · rw [List.length_map, List.length_map, List.length_take]
            have := prs_len row hev
            exact sl_small (by omega)
          · rw [upd_same, take_more he, bl_snoc]
            simp
        refine ⟨_, rfl, _, rfl, _, _, rfl, rfl, _, rfl, ?_⟩
        by_cases h1 : e.1 < e.2
        · have d1 : decide ((e.1 : Int) < (e.2 : Int)) = true := decide_eq_true (by omega)
          rw [if_pos d1]
          refine ⟨_, rfl, _, _, rfl, rfl, ?_⟩
          have d2 : decide ((e.2 : Int) < (n : Int)) = okp n e := by
            unfold okp
            rw [decide_eq_true h1, Bool.true_and]
            exact decide_eq_decide.mpr (by omega)
          rw [← d2] at step
          exact step
        · have d1 : decide ((e.1 : Int) < (e.2 : Int)) = false := decide_eq_false (by omega)
          rw [if_neg (by rw [d1]; exact Bool.false_ne_true)]
          have d2 : false = okp n e := by
            unfold okp
            rw [decide_eq_false h1, Bool.false_and]
          rw [← d2] at step
          exact step
      · rintro H2 ⟨sm2, hD2⟩
        rw [rf_len, hlas, List.take_length] at hD2
        refine ⟨D, _, rfl, .of hD2, _, rfl, ?_⟩
        rw [← inside_eq]
        cases hin : inside n (prs row) with
        | false =>
          have e : edgesOk n row = false := by
            unfold edgesOk; rw [hin]; simp
          rw [e] at q
          exact iteT (q H2 (sm1.trans sm2))
        | true =>
          refine iteF ?_
          have e : edgesOk n row = (lxs (prs row)).all id := by
            unfold edgesOk; rw [hin, decide_eq_true hev, rising_eq]; simp
          rw [e] at q
          -- the second
          refine ⟨.ref p, rfl, .ref p, rfl, 1, rfl, p, rf as, rfl, sm2.seq (.of hp), fun c nc => ?_⟩
          rw [cut_one]
          have sm3 : Same H2 (upd H2 c (.lst ((rf as).drop 1))) := same_new nc
          refine ⟨p, c, rf as, _, rfl, sm3.seq (sm2.seq (.of hp)), .of upd_same, fun D2 nD2 => ?_⟩
          have hm : min (rf as).length ((rf as).drop 1).length = (lxs (prs row)).length := by
            unfold lxs
            rw [List.length_map, List.length_zip, List.length_drop, List.length_drop, rf_len, hlas]
          refine lc_it (walk_zip (K := K) (a := p) (b := c) (xs := rf as) (ys := (rf as).drop 1) hm.symm) (fun i H' => Same (upd H2 c (.lst ((rf as).drop 1))) H' ∧ H' D2 = some (.lst (((lxs (prs row)).take i).map V.bl))) ⟨same_new nD2, upd_same⟩
            (fun i H' _ h => ⟨h.1.seq (sm3.seq (sm2.seq (.of hp))), h.1.seq (.of upd_same)⟩) ?_ ?_
          · rintro i x H3 H4 hi ⟨sm, hD⟩ ⟨t, x1, y1, rfl, nt, rfl, g1, g2⟩
            have hi' : i < min (prs row).length ((prs row).drop 1).length := by
              unfold lxs at hi
              rw [List.length_map, List.length_zip] at hi
              exact hi
            rw [List.length_drop] at hi'
            obtain ⟨t1, ht1, rfl⟩ := rf_inv g1
            have g2 : ((rf as).drop 1)[i]? = some y1 := g2
            rw [List.getElem?_drop] at g2
            obtain ⟨t2, ht2, rfl⟩ := rf_inv g2
            obtain ⟨e1, he1, pn1⟩ := al.get' ht1
            obtain ⟨e2, he2, pn2⟩ := al.get' ht2
            have smt : Same H3 (upd H3 t (.tup [.ref t1, .ref t2])) := same_new nt
            have smA : Same H1 (upd H3 t (.tup [.ref t1, .ref t2])) := sm2.trans (sm3.trans (sm.trans smt))
            have pn1' : (upd H3 t (.tup [.ref t1, .ref t2])) t1 = some (.tup (vn [e1.1, e1.2])) := smA _ _ pn1
            have pn2' : (upd H3 t (.tup [.ref t1, .ref t2])) t2 = some (.tup (vn [e2.1, e2.2])) := smA _ _ pn2
            have hD' : (upd H3 t (.tup [.ref t1, .ref t2])) D2 = some (.lst (((lxs (prs row)).take i).map V.bl)) := smt _ _ hD
            have hl : (lxs (prs row))[i]? = some (lx e1 e2) := by
              unfold lxs
              have hz : ((prs row).zip ((prs row).drop 1))[i]? = some (e1, e2) := List.getElem?_zip_eq_some.mpr ⟨he1, (List.getElem?_drop).trans he2⟩
              rw [List.getElem?_map, hz]
              rfl
            refine ⟨t, _, rfl, .of upd_same, rfl, _, _, rfl, _, _, rfl, rfl, rfl, yes_if ?_⟩
            refine ⟨_, rfl, _, rfl, t1, t2, [(e1.1 : Int), (e1.2 : Int)], [(e2.1 : Int), (e2.2 : Int)], rfl, rfl, .of pn1', .of pn2', ?_⟩
            rw [lexLt_pair]
            refine ⟨_, hD', ?_, same_upd (sm.trans smt) nD2, ?_⟩
            · rw [List.length_map, List.length_take]
              have := prs_len row hev
              exact sl_small (by omega)
            · rw [upd_same, take_more hl, bl_snoc]
          · rintro H3 ⟨sm, hD⟩
            rw [List.take_length] at hD
            exact ⟨D2, _, rfl, .of hD, q H3 (sm1.trans (sm2.trans (sm3.trans sm)))⟩
    · have e0 : (!decide (V.int (((row.length : Nat) : Int) % 2) = V.int 0)) = true := by
        have e : ((row.length : Nat) : Int) % 2 ≠ 0 := by omega
        simp [e]
      rw [e0]
      refine iteT ?_
      have e : edgesOk n row = false := by
        unfold edgesOk; rw [decide_eq_false hev]; simp
      rw [e] at q
      exact q H (Same.refl H)
end
end HP

namespace HP
open PySem PySem.Spec PyProof.Rows L2
open Ks577 (Graph)
theorem lows_snoc (l : List (Nat × Nat)) (e : Nat × Nat) (v : Nat) : lows (l ++ [e]) v = lows l v ++ if e.2 = v then [e.1] else [] := by
  unfold lows
  rw [List.filter_append, List.map_append]
  by_cases h : e.2 = v <;> simp [h]
theorem highs_snoc (l : List (Nat × Nat)) (e : Nat × Nat) (v : Nat) : highs (l ++ [e]) v = highs l v ++ if e.1 = v then [e.2] else [] := by
  unfold highs
  rw [List.filter_append, List.map_append]
  by_cases h : e.1 = v <;> simp [h]
theorem lows_len (l : List (Nat × Nat)) (v : Nat) : (lows l v).length ≤ l.length := by
  unfold lows; rw [List.length_map]; exact List.length_filter_le ..
theorem highs_len (l : List (Nat × Nat)) (v : Nat) : (highs l v).length ≤ l.length := by
  unfold highs; rw [List.length_map]; exact List.length_filter_le ..
/-- at g: the graph, a tuple of the tuples of neighbours -/
def GraphAt (H : Hp) (g : Addr) (G : Graph) : Prop := ∃ as : List Addr, H g = some (.tup (rf as)) ∧ Al (TupN H) as ((List.range G.vertexCount).map (nb G))
theorem GraphAt.keep {H H' : Hp} {g : Addr} {G : Graph} (k : Tk H H') (h : GraphAt H g G) : GraphAt H' g G := by
  obtain ⟨as, h1, h2⟩ := h
  exact ⟨as, k _ _ h1, h2.mono fun a b q => q.keep k⟩
theorem GraphAt.len {H : Hp} {g : Addr} {G : Graph} (h : GraphAt H g G) : ∃ as : List Addr, H g = some (.tup (rf as)) ∧ (rf as).length = G.vertexCount ∧ Al (TupN H) as ((List.range G.vertexCount).map (nb G)) := by
  obtain ⟨as, h1, h2⟩ := h
  exact ⟨as, h1, by rw [rf_len, h2.len, List.length_map, List.length_range], h2⟩
/-- the neighbours of one vertex -/
theorem GraphAt.at {H : Hp} {g : Addr} {G : Graph} (h : GraphAt H g G) {v : Nat} (hv : v < G.vertexCount) : ∃ (xs : List V) (a : Addr), H g = some (.tup xs) ∧ xs[v]? = some (.ref a) ∧ TupN H a (nb G v) := by
  obtain ⟨as, h1, h2⟩ := h
  have e : ((List.range G.vertexCount).map (nb G))[v]? = some (nb G v) := by
    rw [List.getElem?_map, List.getElem?_range hv]; rfl
  obtain ⟨a, ha, t⟩ := h2.get e
  exact ⟨rf as, a, h1, rf_at ha, t⟩
theorem RefE.mono {C : Addr} {H H1 : Hp} {c : Int} {E : XK} (s : Same H H1) (h : RefE C H c E) : RefE C H1 c E := fun d H' k e => h d H' (s.trans k) e
theorem ifb {b : Bool} {A B : Prop} (h1 : b = true → A) (h0 : b = false → B) : if b = true then A else B := by
  cases b with
  | true => rw [if_pos rfl]; exact h1 rfl
  | false => rw [if_neg Bool.false_ne_true]; exact h0 rfl
theorem ifd {p : Prop} [Decidable p] {A B : Prop} (h1 : p → A) (h0 : ¬ p → B) : if decide p = true then A else B := by
  by_cases h : p
  · rw [if_pos (decide_eq_true h)]; exact h1 h
  · rw [if_neg (by rw [decide_eq_false h]; exact Bool.false_ne_true)]; exact h0 h
theorem int_eq {a b : Nat} (h : V.int (a : Int) = V.int (b : Int)) : a = b := by
  injection h with h; omega
section
variable {P : Program} {w : World} {K : PySem.W.Frag} {mg : Str → Option Value} {base : Heap} {C fI : Addr}

/-! ### neighbours_of -/
theorem sc_neighbours_of : FnScope ["vertex", "pairs", "lower", "upper", "one", "other"] ["vertex", "pairs"] (defScope s_neighbours_of) := ⟨rfl, rfl, rfl, by decide +kernel, rfl, by decide +kernel, by decide +kernel⟩
def spNbrs : Sp := fun vs H Q _ => ∃ (v : Nat) (p : Addr) (as : List Addr) (ps : List (Nat × Nat)), vs = [.int v, .ref p] ∧ H p = some (.lst (rf as)) ∧ Al (PairN H) as ps ∧ ps.length ≤ 100 ∧
  ∀ (H' : Hp) (t : Addr), Same H H' → H t = none → TupN H' t (lows ps v ++ highs ps v) → Q (.ref t) H'
theorem ok_neighbours_of (T : Txt K mg C fI) {f : Addr} {fd : FuncData} (F : Fun K "neighbours_of" "neighbours_of" s_neighbours_of f fd) : FnOk P w K mg base CX0 1 f fd ["vertex", "pairs"] spNbrs := by
  refine F.ok sc_neighbours_of (fun vs H Q E h => ?_) (fun cdv A outer s H vs Q E hr h => ?_)
  · obtain ⟨v, p, as, ps, rfl, _⟩ := h
    rfl
  · obtain ⟨v, p, as, ps, rfl, hp, al, hlen, q⟩ := h
    have nd := sc_neighbours_of.nd
    refine ⟨_, pss_cons (ps_setLc (i := 2) (own := [("one", 4), ("other", 5)]) (g := gTup K 2 (gCons (gName 4) (gCons (gName 5) gNil))) (tt := tTest (tOp rEq (tVar 5) (tVar 0))) (te := tVar 4) rfl nd rfl rfl (sw_true rfl rfl rfl (by decide +kernel)) (pi_list (pv 1))
          (blkOk_by (N := ["vertex", "pairs", "lower", "upper", "one", "other"]) (sc := defScope s_neighbours_of) (by decide +kernel))
          (fun _ _ _ _ _ => pg_tup rfl (pgs_cons (pg_name (i := 4) nd rfl (Or.inl rfl)) (pgs_cons (pg_name (i := 5) nd rfl (Or.inl rfl)) pgs_nil)))
          (fun _ _ _ _ _ => pts_one (pt_cmpR op_eq (pv 5) (pv 0) (nomark _))) (fun _ _ _ _ _ => pv 4))
      (pss_cons (ps_setLc (i := 3) (own := [("one", 4), ("other", 5)]) (g := gTup K 2 (gCons (gName 4) (gCons (gName 5) gNil))) (tt := tTest (tOp rEq (tVar 4) (tVar 0))) (te := tVar 5) rfl nd rfl rfl (sw_true rfl rfl rfl (by decide +kernel)) (pi_list (pv 1))
          (blkOk_by (N := ["vertex", "pairs", "lower", "upper", "one", "other"]) (sc := defScope s_neighbours_of) (by decide +kernel))
          (fun _ _ _ _ _ => pg_tup rfl (pgs_cons (pg_name (i := 4) nd rfl (Or.inl rfl)) (pgs_cons (pg_name (i := 5) nd rfl (Or.inl rfl)) pgs_nil)))
          (fun _ _ _ _ _ => pts_one (pt_cmpR op_eq (pv 4) (pv 0) (nomark _))) (fun _ _ _ _ _ => pv 5))
      (pss_one (ps_ret (pe_callTy call_tuple_of (by rfl) T.m_tuple (by decide +kernel) (pa_cons (pe_op op_cat (pv 2) (pv 3)) pa_nil))))), ?_⟩
    -- lower
    refine ⟨_, rfl, p, rfl, ⟨_, .of hp⟩, fun D nD => ?_⟩
    refine lc_list (K := K) (a := p) (xs := rf as) (fun i H' => Same H H' ∧ H' D = some (.lst (vn (lows (ps.take i) v)))) ⟨same_new nD, upd_same⟩ (fun i H' _ h => h.1.seq (.of hp)) ?_ ?_
    · rintro i x H' hx ⟨sm, hD⟩
      obtain ⟨t, ht, rfl⟩ := rf_inv hx
      obtain ⟨e, he, pn⟩ := al.get' ht
      have pn' : H' t = some (.tup (vn [e.1, e.2])) := sm _ _ pn
      refine ⟨t, vn [e.1, e.2], rfl, .of pn', rfl, _, _, rfl, _, _, rfl, rfl, rfl, _, rfl, _, rfl, rfl, _, rfl, ?_⟩
      have hl : (vn (lows (ps.take i) v)).length < sizeLine := by
        rw [vn_len]
        have := lows_len (ps.take i) v
        rw [List.length_take] at this
        exact sl_small (by omega)
      refine ifd (fun c0 => ?_) (fun c0 => ?_)
      · have c : e.2 = v := int_eq c0
        refine ⟨_, rfl, _, hD, hl, same_upd sm nD, ?_⟩
        rw [upd_same, take_more he, lows_snoc, if_pos c, vn_snoc]
      · have c : ¬ e.2 = v := fun z => c0 (congrArg (fun k : Nat => V.int (k : Int)) z)
        refine ⟨sm, ?_⟩
        rw [hD, take_more he, lows_snoc, if_neg c, List.append_nil]
    · rintro H1 ⟨sm1, hD1⟩
      rw [rf_len, al.len, List.take_length] at hD1
      have nD0 : H D = none := nD
      -- upper
      refine ⟨_, rfl, p, rfl, ⟨_, sm1.seq (.of hp)⟩, fun D2 nD2 => ?_⟩
      refine lc_list (K := K) (a := p) (xs := rf as) (fun i H' => Same H1 H' ∧ H' D2 = some (.lst (vn (highs (ps.take i) v)))) ⟨same_new nD2, upd_same⟩ (fun i H' _ h => h.1.seq (sm1.seq (.of hp))) ?_ ?_
      · rintro i x H' hx ⟨sm, hD⟩
        obtain ⟨t, ht, rfl⟩ := rf_inv hx
        obtain ⟨e, he, pn⟩ := al.get' ht
        have pn' : H' t = some (.tup (vn [e.1, e.2])) := sm _ _ (sm1 _ _ pn)
        refine ⟨t, vn [e.1, e.2], rfl, .of pn', rfl, _, _, rfl, _, _, rfl, rfl, rfl, _, rfl, _, rfl, rfl, _, rfl, ?_⟩
        have hl : (vn (highs (ps.take i) v)).length < sizeLine := by
          rw [vn_len]
          have := highs_len (ps.take i) v
          rw [List.length_take] at this
          exact sl_small (by omega)
        refine ifd (fun c0 => ?_) (fun c0 => ?_)
        · have c : e.1 = v := int_eq c0
          refine ⟨_, rfl, _, hD, hl, same_upd sm nD2, ?_⟩
          rw [upd_same, take_more he, highs_snoc, if_pos c, vn_snoc]
        · have c : ¬ e.1 = v := fun z => c0 (congrArg (fun k : Nat => V.int (k : Int)) z)
          refine ⟨sm, ?_⟩
          rw [hD, take_more he, highs_snoc, if_neg c, List.append_nil]
      · rintro H2 ⟨sm2, hD2⟩
        rw [rf_len, al.len, List.take_length] at hD2
        have hD1' := sm2 _ _ hD1
        refine ⟨_, rfl, _, rfl, D, D2, _, _, rfl, rfl, hD1', hD2, ?_, fun l nl => ?_⟩
        · rw [vn_len, vn_len]
          have := lows_len ps v
          have := highs_len ps v
          exact sl_le (by omega)
        · refine ⟨l, _, rfl, .inl ⟨.of upd_same, fun t nt => ?_⟩⟩
          have s3 : Same H2 (upd H2 l (.lst (vn (lows ps v) ++ vn (highs ps v)))) := same_new nl
          have s4 : Same H (upd (upd H2 l (.lst (vn (lows ps v) ++ vn (highs ps v)))) t (.tup (vn (lows ps v) ++ vn (highs ps v)))) := (sm1.trans (sm2.trans s3)).trans (same_new nt)
          refine q _ t s4 ((sm1.trans (sm2.trans s3)).free nt) ?_
          unfold TupN
          rw [upd_same, vn_app]

/-! ### read_graph -/
theorem sc_read_graph : FnScope ["vertex_count", "edges", "pairs", "vertex"] ["vertex_count", "edges"] (defScope s_read_graph) := ⟨rfl, rfl, rfl, by decide +kernel, rfl, by decide +kernel, by decide +kernel⟩
def Asked (n : Nat) (row : List Nat) : Prop := 1 ≤ n ∧ n ≤ 5 ∧ edgesOk n row = true
instance (n : Nat) (row : List Nat) : Decidable (Asked n row) := inferInstanceAs (Decidable (1 ≤ n ∧ n ≤ 5 ∧ edgesOk n row = true))
def spGraph (K : PySem.W.Frag) (C : Addr) : Sp := fun vs H Q E => ∃ (n : Nat) (a : Addr) (row : List Nat), vs = [.int n, .ref a] ∧ SqL K H a (vn row) ∧ row.length ≤ 100 ∧
  (¬ Asked n row → RefE C H (-22) E) ∧ (Asked n row → ∀ (H' : Hp) (g : Addr), Same H H' → GraphAt H' g ⟨n, prs row⟩ → Q (.ref g) H')
theorem ok_read_graph (T : Txt K mg C fI) {f : Addr} {fd : FuncData} (F : Fun K "read_graph" "read_graph" s_read_graph f fd) : FnOk P w K mg base (L2.CX P w) 4 f fd ["vertex_count", "edges"] (spGraph K C) := by
  obtain ⟨fP, fdP, gP, FP, bP⟩ := T.d_pairs_of
  have GP : FnOk P w K mg base CX0 1 fP fdP ["row"] (spPairs K) := ok_pairs_of T FP
  obtain ⟨fE, fdE, gE, FE, bE⟩ := T.d_are_edges
  have GE : FnOk P w K mg base CX0 2 fE fdE ["vertex_count", "edges"] (spEdges K) := ok_are_edges T FE
  obtain ⟨fB, fdB, gB, FB, bB⟩ := T.d_neighbours_of
  have GB : FnOk P w K mg base CX0 1 fB fdB ["vertex", "pairs"] spNbrs := ok_neighbours_of T FB
  obtain ⟨fN, fdN, gN, FN, bN⟩ := T.d_need
  have GN : FnOk P w K mg base (L2.CX P w) 3 fN fdN ["truth", "code"] (spNeed C) := ok_need T.rk T.m_ValueError FN
  obtain ⟨tk1, k1⟩ := T.c_MOST_VERTICES
  obtain ⟨tk2, k2⟩ := T.c_OUT_OF_LIMITS
  refine F.okX sc_read_graph (fun vs H Q E h => ?_) (fun cdv A outer s H vs Q E hr h => ?_)
  · obtain ⟨n, a, row, rfl, _⟩ := h
    rfl
  · obtain ⟨n, a, row, rfl, hS, hlen, qb, qg⟩ := h
    have nd := sc_read_graph.nd
    have hr1 : Room 1 _ := hr.mono (by decide)
    have hr2 : Room 2 _ := hr.mono (by decide)
    refine ⟨_, pss_cons (ps_expr (pe_call GN hr (by rfl) gN FN.kp bN .nil (passes_call (takes_of rfl rfl rfl rfl) (fun _ _ _ _ h => h))
        (pa_cons (pe_and (pe_chain op_le op_le pe_int (pv 0) (pe_glob (v := .int 5) (by rfl) k1 ⟨_, rfl⟩)) (pe_one (pe_call GE hr2 (by rfl) gE FE.kp bE .nil pass0 (pa_cons (pv 0) (pa_cons (pv 1) pa_nil))))) (pa_cons (pe_glob (v := .int (-22)) (by rfl) k2 ⟨_, rfl⟩) pa_nil))))
      (pss_cons (ps_set (i := 2) nd rfl (.inr rfl) (pe_call GP hr1 (by rfl) gP FP.kp bP .nil pass0 (pa_cons (pv 1) pa_nil)))
      (pss_one (ps_ret (pe_callTy call_tuple_of (by rfl) T.m_tuple (by decide +kernel) (pa_cons
        (pe_lc (own := [("vertex", 3)]) (g := gName 3) (tt := tYes) (te := tCall spNbrs [] E0 (tCons (tVar 3) (tCons (tVar 2) tNil))) rfl nd (pi_range1 (by rfl) T.m_range (pa_cons (pv 0) pa_nil))
          (blkOk_by (N := ["vertex_count", "edges", "pairs", "vertex"]) (sc := defScope s_read_graph) (by decide +kernel))
          (fun _ _ _ _ _ => pg_name (i := 3) nd rfl (Or.inl rfl)) (fun _ _ _ _ _ => pts_nil)
          (fun _ _ _ _ _ => pe_call GB hr1 (by rfl) gB FB.kp bB .nil pass0 (pa_cons (pv 3) (pa_cons (pv 2) pa_nil)))) pa_nil))))), ?_⟩
    -- the tests
    refine ⟨_, rfl, _, _, rfl, rfl, _, rfl, ?_⟩
    by_cases h1 : 1 ≤ n
    · rw [if_pos (decide_eq_true (by omega))]
      refine ⟨(n : Int), 5, rfl, rfl, _, rfl, ?_⟩
      by_cases h2 : n ≤ 5
      · rw [if_pos (decide_eq_true (by omega))]
        refine ⟨_, rfl, _, rfl, a, n, row, rfl, hS, hlen, fun H1 sm1 => ?_⟩
        cases he : edgesOk n row with
        | false => exact ⟨false, -22, rfl, fun z => (nomatch z), fun _ => (qb (fun z => by rw [z.2.2] at he; cases he)).mono sm1⟩
        | true =>
          have hA : Asked n row := ⟨h1, h2, he⟩
          have hG : Good ⟨n, prs row⟩ := good_of h1 h2 he
          have hev : row.length % 2 = 0 := by
            unfold edgesOk at he
            simp only [Bool.and_eq_true, decide_eq_true_eq] at he
            exact he.1
          refine ⟨true, -22, rfl, fun _ => ?_, fun z => nomatch z⟩
          refine ⟨_, rfl, a, row, rfl, sm1.seq hS, hev, hlen, fun H2 p as sm2 np hp al => ?_⟩
          have hpl : (prs row).length ≤ 100 := by have := prs_len row hev; omega
          refine ⟨_, rfl, n, rfl, by omega, by omega, fun D nD => ?_⟩
          refine lc_range (lo := 0) (n := n) (fun i H' => Same H2 H' ∧ ∃ bs, H' D = some (.lst (rf bs)) ∧ Al (TupN H') bs (((List.range n).map (nb ⟨n, prs row⟩)).take i)) ⟨same_new nD, [], upd_same, .nil⟩ ?_ ?_
          · rintro i H' hi ⟨sm, bs, hD, alb⟩
            have hi' : i < n := hi
            refine ⟨rfl, yes_if ?_⟩
            refine ⟨_, rfl, _, rfl, i, p, as, prs row, ?_, sm _ _ hp, al.mono (fun _ _ z => z.keep (.same sm)), hpl, fun H3 t sm3 nt ht => ?_⟩
            · show [V.int (0 + (i : Int)), V.ref p] = _
              rw [Int.zero_add]
            · rw [nb_eq hG i] at ht
              have hD3 : H3 D = some (.lst (rf bs)) := sm3 _ _ hD
              have ei : ((List.range n).map (nb ⟨n, prs row⟩))[i]? = some (nb ⟨n, prs row⟩ i) := by
                rw [List.getElem?_map, List.getElem?_range hi']; rfl
              refine ⟨_, hD3, ?_, same_upd (sm.trans sm3) nD, bs ++ [t], by rw [upd_same, rf_snoc], ?_⟩
              · rw [rf_len, alb.len, List.length_take]
                exact sl_small (by omega)
              · rw [take_more ei]
                exact (alb.mono fun _ _ z => (z.keep (.same sm3)).keep (.lst hD3)).snoc (ht.keep (.lst hD3))
          · rintro H3 ⟨sm3, bs, hD, alb⟩
            rw [List.take_of_length_le (by rw [List.length_map, List.length_range]; exact Nat.le_refl _)] at alb
            refine ⟨D, _, rfl, .inl ⟨.of hD, fun t nt => ?_⟩⟩
            exact qg hA _ t (sm1.trans (sm2.trans (sm3.trans (same_new nt)))) ⟨bs, upd_same, alb.mono fun _ _ z => z.keep (.new nt)⟩
      · rw [if_neg (by intro z; have := of_decide_eq_true z; omega)]
        exact ⟨false, -22, rfl, fun z => (nomatch z), fun _ => qb (fun z => h2 z.2.1)⟩
    · rw [if_neg (by intro z; have := of_decide_eq_true z; omega)]
      refine ⟨false, rfl, ?_⟩
      rw [if_neg Bool.false_ne_true]
      exact ⟨false, -22, rfl, fun z => (nomatch z), fun _ => qb (fun z => h1 z.1)⟩

/-! ### read_pebbles -/
theorem sc_read_pebbles : FnScope ["graph", "pebbles"] ["graph", "pebbles"] (defScope s_read_pebbles) := ⟨rfl, rfl, rfl, by decide +kernel, rfl, by decide +kernel, by decide +kernel⟩
def spPebbles (K : PySem.W.Frag) (C : Addr) : Sp := fun vs H Q E => ∃ (g b : Addr) (G : Graph) (peb : List Nat), vs = [.ref g, .ref b] ∧ GraphAt H g G ∧ SqL K H b (vn peb) ∧
  (¬ (peb.length = G.vertexCount ∧ peb.sum ≤ 12) → RefE C H (-22) E) ∧ ((peb.length = G.vertexCount ∧ peb.sum ≤ 12) → ∀ (H' : Hp) (c : Addr), Same H H' → TupN H' c peb → Q (.ref c) H')
theorem ok_read_pebbles (T : Txt K mg C fI) {f : Addr} {fd : FuncData} (F : Fun K "read_pebbles" "read_pebbles" s_read_pebbles f fd) : FnOk P w K mg base (L2.CX P w) 4 f fd ["graph", "pebbles"] (spPebbles K C) := by
  obtain ⟨fN, fdN, gN, FN, bN⟩ := T.d_need
  have GN : FnOk P w K mg base (L2.CX P w) 3 fN fdN ["truth", "code"] (spNeed C) := ok_need T.rk T.m_ValueError FN
  obtain ⟨tk1, k1⟩ := T.c_MOST_PEBBLES
  obtain ⟨tk2, k2⟩ := T.c_OUT_OF_LIMITS
  refine F.okX sc_read_pebbles (fun vs H Q E h => ?_) (fun cdv A outer s H vs Q E hr h => ?_)
  · obtain ⟨n, a, G, row, rfl, _⟩ := h
    rfl
  · obtain ⟨g, b, G, peb, rfl, hG, hS, qb, qg⟩ := h
    have nd := sc_read_pebbles.nd
    refine ⟨_, pss_cons (ps_expr (pe_call GN hr (by rfl) gN FN.kp bN .nil (passes_call (takes_of rfl rfl rfl rfl) (fun _ _ _ _ h => h))
        (pa_cons (pe_and (pe_cmpR op_eq (pe_callB call_len_seq (by rfl) T.m_len PySem.boot_len (pa_cons (pv 1) pa_nil)) (pe_callB call_len_seq (by rfl) T.m_len PySem.boot_len (pa_cons (pv 0) pa_nil)) (nomark _))
            (pe_one (pe_cmpR op_le (pe_callB (cr_sum rfl) (by rfl) T.m_sum (by decide +kernel) (pa_cons (pv 1) pa_nil)) (pe_glob (v := .int 12) (by rfl) k1 ⟨_, rfl⟩) (nomark _)))) (pa_cons (pe_glob (v := .int (-22)) (by rfl) k2 ⟨_, rfl⟩) pa_nil))))
      (pss_one (ps_ret (pe_callTy call_tuple_of (by rfl) T.m_tuple (by decide +kernel) (pa_cons (pv 1) pa_nil)))), ?_⟩
    obtain ⟨as, hg, hgl, _⟩ := hG.len
    refine ⟨_, rfl, b, vn peb, rfl, .inl hS, _, rfl, g, rf as, rfl, .inr (.of hg), rfl, _, rfl, ?_⟩
    rw [vn_len, hgl]
    by_cases h1 : peb.length = G.vertexCount
    · rw [if_pos (decide_eq_true (by rw [h1]))]
      refine ⟨_, rfl, b, nis peb, rfl, by rw [← vn_nis]; exact hS, _, _, rfl, rfl, ?_⟩
      refine ⟨decide ((nis peb).sum ≤ 12), -22, rfl, fun z => ?_, fun z => ?_⟩
      · have h2 : peb.sum ≤ 12 := by have := of_decide_eq_true z; rw [nis_sum] at this; omega
        refine ⟨_, rfl, b, vn peb, rfl, .inl ⟨hS, fun t nt => ?_⟩⟩
        exact qg ⟨h1, h2⟩ _ t (same_new nt) upd_same
      · refine qb fun y => ?_
        have := of_decide_eq_false z
        rw [nis_sum] at this
        have := y.2
        omega
    · rw [if_neg (by intro z; have z1 := of_decide_eq_true z; injection z1 with z2; exact h1 (by omega))]
      exact ⟨false, -22, rfl, fun z => (nomatch z), fun _ => qb (fun z => h1 z.1)⟩
end
end HP

namespace HP
open PySem PySem.Spec PyProof.Rows L2
open Ks577 (Graph)
/-! ### what is due -/
theorem parseGraph_eq (n : Nat) (es : List Nat) : Ks577.parseGraph n es = if Asked n es then some ⟨n, prs es⟩ else none := by
  unfold Ks577.parseGraph
  have hm : Ks577.maxVertices = 5 := rfl
  rw [hm, parse_eq]
  by_cases h : n < 1 ∨ 5 < n
  · rw [if_pos h, if_neg]
    rintro ⟨h1, h2, _⟩
    omega
  · rw [if_neg h]
    by_cases h3 : edgesOk n es = true
    · rw [if_pos h3, if_pos ⟨by omega, by omega, h3⟩]; rfl
    · rw [if_neg h3, if_neg (fun z => h3 z.2.2)]; rfl
def Fits (n : Nat) (es peb : List Nat) : Prop := Asked n es ∧ peb.length = n ∧ peb.sum ≤ 12
instance (n : Nat) (es peb : List Nat) : Decidable (Fits n es peb) := inferInstanceAs (Decidable (Asked n es ∧ peb.length = n ∧ peb.sum ≤ 12))
theorem withConf_eq (n : Nat) (es peb : List Nat) (f : Graph → List Nat → Ks577.Result) : Ks577.withConfiguration n es peb f = if Fits n es peb then f ⟨n, prs es⟩ peb else Ks577.number (-22) := by
  unfold Ks577.withConfiguration Ks577.withGraph
  rw [parseGraph_eq]
  by_cases h : Asked n es
  · rw [if_pos h]
    show (if Ks577.isValidConfiguration ⟨n, prs es⟩ peb = true then _ else _) = _
    have e : Ks577.isValidConfiguration ⟨n, prs es⟩ peb = true ↔ peb.length = n ∧ peb.sum ≤ 12 := by
      unfold Ks577.isValidConfiguration
      have hm : Ks577.maxPebbles = 12 := rfl
      rw [hm, Bool.and_eq_true, beq_iff_eq, decide_eq_true_iff]
    by_cases h2 : peb.length = n ∧ peb.sum ≤ 12
    · rw [if_pos (e.mpr h2), if_pos ⟨h, h2⟩]
    · rw [if_neg (fun z => h2 (e.mp z)), if_neg (fun z => h2 z.2)]
  · rw [if_neg h, if_neg (fun z => h z.1)]
abbrev told (c : Ks577.Call) : List Int := Ks577Neutral.integers (Ks577.answer c)
/-- whole numbers from 0 on as naturals -/
def nats (zs : List Int) : List Nat := zs.map Int.toNat
theorem vn_nats {zs : List Int} (h : ∀ z ∈ zs, 0 ≤ z) : vn (nats zs) = zs.map V.int := by
  unfold vn nats
  rw [List.map_map]
  apply List.map_congr_left
  intro z hz
  show V.int ((z.toNat : Nat) : Int) = V.int z
  rw [Int.toNat_of_nonneg (h z hz)]
theorem nats_len (zs : List Int) : (nats zs).length = zs.length := List.length_map _
theorem in_nonneg {z : Int} {hi : Int} (h : PySem.W.Codec.inInt 0 hi z = true) : 0 ≤ z := by
  unfold PySem.W.Codec.inInt at h
  simp only [Bool.and_eq_true, decide_eq_true_eq] at h
  exact h.1
theorem all_nonneg {zs : List Int} {hi : Int} (h : zs.all (PySem.W.Codec.inInt 0 hi) = true) : ∀ z ∈ zs, 0 ≤ z := fun z hz => in_nonneg (List.all_eq_true.mp h z hz)
/-- what is asked of a def that gives out the answer R or refuses -/
def Told (C : Addr) (H : Hp) (R : List Int) (Q : VK) (E : XK) : Prop := (∀ c : Int, R = [c] → RefE C H c E) ∧ ∀ (H' : Hp) (t : Addr), Same H H' → H' t = some (.lst (R.map V.int)) → Q (.ref t) H'
/-- .. of one that lets nothing out -/
def Gives (R : List Int) (Q : VK) : Prop := ∀ (H' : Hp) (t : Addr), H' t = some (.lst (R.map V.int)) → Q (.ref t) H'
theorem RefE.back {C : Addr} {H : Hp} {c : Int} {E : XK} {H1 : Hp} (s : Same H H1) (h : RefE C H c E) : RefE C H1 c E := h.mono s
/-- an error of the class at S is what «except S» names -/
theorem exm_self {K : PySem.W.Frag} {S : Addr} (h1 : PySem.W.subIn K (.ref S) (.type "BaseException") = some true) (h2 : PySem.W.isClsIn K S = true) (h3 : PySem.W.typeIn K (.ref S) = some (.type "type")) (h4 : PySem.W.subIn K (.ref S) (.ref S) = some true) :
    PySem.W.exmOne K (.ref S) (.ref S) = some true := by
  have e1 : (PySem.W.subIn K (.ref S) (.type "BaseException") == some true) = true := by rw [h1] <;> rfl
  have e2 : ((PySem.W.clsIn K S).isSome && PySem.W.typeIn K (.ref S) == some (.type "type")) = true := by
    have h2' : (PySem.W.clsIn K S).isSome = true := h2
    rw [h2', h3] <;> rfl
  show (if (PySem.W.subIn K (.ref S) (.type "BaseException") == some true) = true then (if ((PySem.W.clsIn K S).isSome && PySem.W.typeIn K (.ref S) == some (.type "type")) = true then PySem.W.subIn K (.ref S) (.ref S) else none) else none) = some true
  rw [if_pos e1, if_pos e2]
  exact h4
/-- found = [e.code] -/
def t_suite (C : Addr) (i j : Nat) : Addr → Value → Option Addr → TS := fun a cls d => tAsg (tLst (tCons (tXf a cls d C "code" (tVar i)) tNil)) (gName j)
end HP

namespace HP
open PySem PySem.Spec PyProof.Rows L2
open Ks577 (Graph pebblesAt possibleMoves)
section
variable {P : Program} {w : World} {K : PySem.W.Frag} {mg : Str → Option Value} {base : Heap} {C fI : Addr}

/-! ### need_target -/
theorem sc_need_target : FnScope ["graph", "target"] ["graph", "target"] (defScope s_need_target) := ⟨rfl, rfl, rfl, by decide +kernel, rfl, by decide +kernel, by decide +kernel⟩
def spTarget (C : Addr) : Sp := fun vs H Q E => ∃ (g : Addr) (t : Nat) (G : Graph), vs = [.ref g, .int t] ∧ GraphAt H g G ∧ (G.vertexCount ≤ t → RefE C H (-2) E) ∧ (t < G.vertexCount → Q .non H)
theorem ok_need_target (T : Txt K mg C fI) {f : Addr} {fd : FuncData} (F : Fun K "need_target" "need_target" s_need_target f fd) : FnOk P w K mg base (L2.CX P w) 4 f fd ["graph", "target"] (spTarget C) := by
  obtain ⟨fN, fdN, gN, FN, bN⟩ := T.d_need
  have GN : FnOk P w K mg base (L2.CX P w) 3 fN fdN ["truth", "code"] (spNeed C) := ok_need T.rk T.m_ValueError FN
  obtain ⟨tk2, k2⟩ := T.c_NO_TARGET
  refine F.okX sc_need_target (fun vs H Q E h => ?_) (fun cdv A outer s H vs Q E hr h => ?_)
  · obtain ⟨g, t, G, rfl, _⟩ := h
    rfl
  · obtain ⟨g, t, G, rfl, hG, qb, qg⟩ := h
    refine ⟨_, pss_one (ps_expr (pe_call GN hr (by rfl) gN FN.kp bN .nil (passes_call (takes_of rfl rfl rfl rfl) (fun _ _ _ _ h => h))
        (pa_cons (pe_cmpR op_lt (pv 1) (pe_callB call_len_seq (by rfl) T.m_len PySem.boot_len (pa_cons (pv 0) pa_nil)) (nomark _)) (pa_cons (pe_glob (v := .int (-2)) (by rfl) k2 ⟨_, rfl⟩) pa_nil)))), ?_⟩
    obtain ⟨as, hg, hgl, _⟩ := hG.len
    refine ⟨_, rfl, _, rfl, g, rf as, rfl, .inr (.of hg), _, _, rfl, rfl, ?_⟩
    rw [hgl]
    refine ⟨decide ((t : Int) < (G.vertexCount : Int)), -2, rfl, fun z => ?_, fun z => ?_⟩
    · have := of_decide_eq_true z
      exact qg (by omega)
    · have := of_decide_eq_false z
      exact qb (by omega)
end
end HP

namespace HP
open PySem PySem.Spec PyProof.Rows L2
open Ks577 (Graph pebblesAt)

def vi (f : List Int) : List V := f.map V.int
theorem vi_len (f : List Int) : (vi f).length = f.length := List.length_map _
theorem vi_at {f : List Int} {i : Nat} (h : i < f.length) : (vi f)[i]? = some (.int (f.getD i 0)) := by
  unfold vi
  rw [List.getElem?_map, List.getD_eq_getElem?_getD, List.getElem?_eq_getElem h]
  rfl
theorem vi_set (f : List Int) (i : Nat) (x : Int) : (vi f).set i (.int x) = vi (f.set i x) := by
  unfold vi; rw [List.map_set]
theorem vi_snoc (f : List Int) (x : Int) : vi f ++ [.int x] = vi (f ++ [x]) := by
  unfold vi; rw [List.map_append]; rfl
theorem ixN_nat {n i : Nat} (h : i < n) : ixN n (i : Int) = some i := by
  unfold ixN
  rw [if_pos (by omega), if_pos (by omega)]
  simp
theorem flat_vi (l : List Int) : (vi l).all flatV = true := by
  rw [List.all_eq_true]
  intro x hx
  obtain ⟨n, _, rfl⟩ := List.mem_map.mp hx
  rfl
theorem inV_vi (k : Int) (l : List Int) : inV (.int k) (vi l) = true ↔ k ∈ l := by
  unfold inV vi
  rw [List.any_eq_true]
  constructor
  · rintro ⟨y, hy, e⟩
    obtain ⟨n, hn, rfl⟩ := List.mem_map.mp hy
    have e' : (n == k) = true := e
    rw [beq_iff_eq] at e'
    rw [← e']; exact hn
  · intro h
    refine ⟨_, List.mem_map.mpr ⟨k, h, rfl⟩, ?_⟩
    show (k == k) = true
    exact beq_self_eq_true k
section
variable {P : Program} {w : World} {K : PySem.W.Frag} {mg : Str → Option Value} {base : Heap} {C fI : Addr}

/-! ### distances -/
theorem sc_distances : FnScope ["graph", "target", "found", "turn", "vertex", "other"] ["graph", "target"] (defScope s_distances) := ⟨rfl, rfl, rfl, by decide +kernel, rfl, by decide +kernel, by decide +kernel⟩
def spDist : Sp := fun vs H Q _ => ∃ (g : Addr) (t : Nat) (G : Graph), vs = [.ref g, .int t] ∧ GraphAt H g G ∧ Good G ∧ t < G.vertexCount ∧
  ∀ (H' : Hp) (D : Addr), Same H H' → H D = none → H' D = some (.lst (vi (distD G t))) → Q (.ref D) H'
theorem ok_distances (T : Txt K mg C fI) {f : Addr} {fd : FuncData} (F : Fun K "distances" "distances" s_distances f fd) : FnOk P w K mg base CX0 1 f fd ["graph", "target"] spDist := by
  obtain ⟨tk1, k1⟩ := T.c_FAR
  refine F.ok sc_distances (fun vs H Q E h => ?_) (fun cdv A outer s0 H vs Q E hr h => ?_)
  · obtain ⟨g, t, G, rfl, _⟩ := h
    rfl
  · obtain ⟨g, t, G, rfl, hG, gG, ht, q⟩ := h
    have nd := sc_distances.nd
    refine ⟨_, pss_cons (ps_set (i := 2) nd rfl (.inr rfl) (pe_op op_rep (pe_lst (pa_cons (pe_glob (v := .int (-1)) (by rfl) k1 ⟨_, rfl⟩) pa_nil)) (pe_callB call_len_seq (by rfl) T.m_len PySem.boot_len (pa_cons (pv 0) pa_nil))))
      (pss_cons (ps_asg pe_int (pg_sub (pv 2) (pv 1) set_list))
      (pss_cons (ps_for PassesOwn.never rfl (pi_range1 (by rfl) T.m_range (pa_cons (pe_callB call_len_seq (by rfl) T.m_len PySem.boot_len (pa_cons (pv 0) pa_nil)) pa_nil)) (pg_name (i := 3) nd rfl (Or.inl rfl))
        (pss_one (ps_for PassesOwn.never rfl (pi_range1 (by rfl) T.m_range (pa_cons (pe_callB call_len_seq (by rfl) T.m_len PySem.boot_len (pa_cons (pv 0) pa_nil)) pa_nil)) (pg_name (i := 4) nd rfl (Or.inl rfl))
          (pss_one (ps_if (PW.pt (pw_and (pt_cmpR op_eq (pe_ix ix_list (pv 2) (pv 4) (fun _ _ => rfl)) (pe_glob (v := .int (-1)) (by rfl) k1 ⟨_, rfl⟩) (nomark _))
              (pw_and1 (pt_cmpR op_in_seq (pv 3) (pe_lc (own := [("other", 5)]) (g := gName 5) (tt := tYes) (te := tOp (rIxL K) (tVar 2) (tVar 5)) rfl nd (pi_tup (pe_ix ix_tup (pv 0) (pv 4) (fun _ _ => rfl)))
                  (blkOk_by (N := ["graph", "target", "found", "turn", "vertex", "other"]) (sc := defScope s_distances) (by decide +kernel))
                  (fun _ _ _ _ _ => pg_name (i := 5) nd rfl (Or.inl rfl)) (fun _ _ _ _ _ => pts_nil)
                  (fun _ _ _ _ _ => pe_ix ix_list (pv 2) (pv 5) (fun _ _ => rfl))) (by with_unfolding_all rfl)))))
            (pss_one (ps_asg (pe_op op_add (pv 3) pe_int) (pg_sub (pv 2) (pv 4) set_list))) pss_nil)))))
      (pss_one (ps_ret (pv 2))))), ?_⟩
    obtain ⟨as0, hg, hgl, _⟩ := hG.len
    have h5 := gG.hi
    -- [FAR] * len(graph)
    refine ⟨(by show 1 ≤ sizeLine; decide), fun l0 nl0 => ?_⟩
    have s0' : Same H (upd H l0 (.lst [.int (-1)])) := same_new nl0
    refine ⟨_, rfl, g, rf as0, rfl, .inr (.of (s0' _ _ hg)), l0, _, _, rfl, rfl, upd_same, by rw [hgl]; omega, by rw [hgl]; omega, ?_, fun D nD => ?_⟩
    · rw [hgl, Int.toNat_natCast]
      refine sl_le ?_
      show 1 * G.vertexCount ≤ 1000000
      omega
    rw [hgl]
    have e0 : (List.replicate ((G.vertexCount : Nat) : Int).toNat ([.int (-1)] : List V)).flatten = vi (List.replicate G.vertexCount (-1)) := by
      rw [Int.toNat_natCast]
      unfold vi
      rw [List.map_replicate, List.flatten_replicate_singleton]
    rw [e0]
    -- found[target] = 0
    refine ⟨.ref D, rfl, .int t, rfl, D, vi (List.replicate G.vertexCount (-1)), t, t, rfl, rfl, upd_same, by rw [vi_len, List.length_replicate]; exact ixN_nat ht, ?_⟩
    rw [vi_set, upd_upd]
    have hDN : H D = none := s0'.free nD
    have s1 : Same H (upd (upd H l0 (.lst [.int (-1)])) D (.lst (vi (startD G t)))) := s0'.trans (same_new nD)
    have hlen : ∀ k, ((List.range k).foldl (roundD G) (startD G t)).length = G.vertexCount := fun k => (Dist.all gG ht k).len
    refine ⟨_, rfl, g, rf as0, rfl, .inr (.of (s1 _ _ hg)), _, rfl, by rw [hgl]; omega, by rw [hgl]; omega, ?_⟩
    rw [hgl]
    refine for_range (lo := 0) (n := ((G.vertexCount : Nat) : Int).toNat) (fun k σ H' => ∃ (v3 v4 v5 : Option V), σ = [some (.ref g), some (.int t), some (.ref D), v3, v4, v5] ∧ Same H H' ∧ H' D = some (.lst (vi ((List.range k).foldl (roundD G) (startD G t)))))
      ⟨none, none, none, rfl, s1, upd_same⟩ ?_ ?_
    · rintro k σ H1 hk ⟨v3, v4, v5, rfl, sm1, hD1⟩
      have hzk : (0 : Int) + (k : Int) = (k : Int) := Int.zero_add _
      refine ⟨_, rfl, g, rf as0, rfl, .inr (.of (sm1 _ _ hg)), _, rfl, by rw [hgl]; omega, by rw [hgl]; omega, ?_⟩
      rw [hgl]
      generalize hfk : (List.range k).foldl (roundD G) (startD G t) = fk at hD1
      have hfl : fk.length = G.vertexCount := by rw [← hfk]; exact hlen k
      refine for_range (lo := 0) (n := ((G.vertexCount : Nat) : Int).toNat) (fun i σ H' => ∃ (v4 v5 : Option V), σ = [some (.ref g), some (.int t), some (.ref D), some (.int (0 + (k : Int))), v4, v5] ∧ Same H H' ∧ H' D = some (.lst (vi ((List.range i).foldl (stepD G k) fk))))
        ⟨_, _, rfl, sm1, hD1⟩ ?_ ?_
      · rintro i σ H2 hi ⟨v4, v5, rfl, sm2, hD2⟩
        have hi' : i < G.vertexCount := by simpa using hi
        have hzi : (0 : Int) + (i : Int) = (i : Int) := Int.zero_add _
        rw [List.range_succ, List.foldl_append]
        generalize hfi : (List.range i).foldl (stepD G k) fk = fi at hD2
        have hfil : fi.length = G.vertexCount := by rw [← hfi, foldD_len, hfl]
        show _
        refine ⟨_, rfl, _, rfl, D, vi fi, _, .int (fi.getD i 0), rfl, rfl, .of hD2, (by rw [hzi]; exact atI_at (vi_at (by omega))), rfl, _, rfl, ?_⟩
        have keep : ¬ (fi.getD i 0 = -1 ∧ ∃ u ∈ nb G i, fi.getD u 0 = (k : Int)) → stepD G k fi i = fi := fun h => if_neg h
        refine ifd (fun c => ?_) (fun c => ?_)
        · have c1 : fi.getD i 0 = -1 := by injection c
          obtain ⟨xs, a, hgx, ha, hn⟩ := (hG.keep (.same sm2)).at hi'
          refine ⟨_, rfl, _, rfl, _, rfl, g, xs, _, _, rfl, rfl, .of hgx, (by rw [hzi]; exact atI_at ha), a, rfl, ⟨_, .of hn⟩, fun D2 nD2 => ?_⟩
          refine lc_tup (K := K) (a := a) (xs := vn (nb G i)) (fun j H3 => Same H2 H3 ∧ H3 D2 = some (.lst (vi (((nb G i).take j).map fun u => fi.getD u 0)))) ⟨same_new nD2, upd_same⟩ (fun j H3 _ h => .of (h.1 _ _ hn)) ?_ ?_
          · rintro j x H3 hx ⟨sm3, hD3⟩
            obtain ⟨u, hu, rfl⟩ := vn_inv hx
            have hun : u < G.vertexCount := nb_lt (List.mem_of_getElem? hu)
            refine ⟨rfl, yes_if ?_⟩
            refine ⟨_, rfl, _, rfl, D, vi fi, _, _, rfl, rfl, .of (sm3 _ _ hD2), atI_at (vi_at (by omega)), ?_⟩
            refine ⟨_, hD3, ?_, same_upd sm3 nD2, ?_⟩
            · rw [vi_len, List.length_map, List.length_take]
              have := nb_len G i
              exact sl_small (by omega)
            · rw [upd_same, take_more hu, vi_snoc, List.map_append]
              rfl
          · rintro H3 ⟨sm3, hD3⟩
            rw [vn_len, List.take_length] at hD3
            refine ⟨D2, _, rfl, .inl (.of hD3), rfl, flat_vi _, _, rfl, ?_⟩
            have hmem : inV (.int (0 + (k : Int))) (vi ((nb G i).map fun u => fi.getD u 0)) = true ↔ ∃ u ∈ nb G i, fi.getD u 0 = (k : Int) := by
              rw [inV_vi, hzk, List.mem_map]
            refine ifb (fun c2 => ?_) (fun c2 => ?_)
            · have hst : stepD G k fi i = fi.set i ((k : Int) + 1) := if_pos ⟨c1, hmem.mp c2⟩
              have hD3' := sm3 _ _ hD2
              refine ⟨_, rfl, _, _, rfl, rfl, ?_⟩
              refine ⟨.ref D, rfl, _, rfl, D, vi fi, _, i, rfl, rfl, hD3', (by rw [hzi, vi_len]; exact ixN_nat (by omega)), ?_⟩
              refine ⟨_, _, rfl, same_upd (sm2.trans sm3) hDN, ?_⟩
              rw [upd_same]
              show some (HO.lst ((vi fi).set i (.int (0 + (k : Int) + 1)))) = some (HO.lst (vi (stepD G k fi i)))
              rw [vi_set, hst, hzk]
            · have hst : stepD G k fi i = fi := keep (fun z => by rw [hmem.mpr z.2] at c2; cases c2)
              refine ⟨_, _, rfl, sm2.trans sm3, ?_⟩
              show _ = some (HO.lst (vi (stepD G k fi i)))
              rw [hst]
              exact sm3 _ _ hD2
        · have hst : stepD G k fi i = fi := keep (fun z => c (by rw [z.1]))
          refine ⟨_, _, rfl, sm2, ?_⟩
          show _ = some (HO.lst (vi (stepD G k fi i)))
          rw [hst]
          exact hD2
      · rintro σ H2 ⟨v4, v5, rfl, sm2, hD2⟩
        rw [Int.toNat_natCast] at hD2
        refine ⟨_, _, _, rfl, sm2, ?_⟩
        rw [List.range_succ, List.foldl_append, hfk]
        exact hD2
    · rintro σ H2 ⟨v3, v4, v5, rfl, sm2, hD2⟩
      rw [Int.toNat_natCast] at hD2
      exact ⟨_, rfl, q H2 D sm2 hDN hD2⟩
end
end HP

namespace HP
open PySem PySem.Spec PyProof.Rows L2
open Ks577 (Graph pebblesAt distance weightAt)

theorem six_at : ∀ k : Nat, k ≤ 4 → atI ([.int 16, .int 8, .int 4, .int 2, .int 1] : List V) (k : Int) = some (.int ((2 ^ (4 - k) : Nat) : Int)) := by
  intro k hk
  have h : k = 0 ∨ k = 1 ∨ k = 2 ∨ k = 3 ∨ k = 4 := by omega
  rcases h with rfl | rfl | rfl | rfl | rfl <;> rfl
theorem pow_small (k : Nat) : -(2 ^ 64) < ((2 ^ (4 - k) : Nat) : Int) ∧ ((2 ^ (4 - k) : Nat) : Int) < 2 ^ 64 := by
  have h : 2 ^ (4 - k) ≤ 2 ^ 4 := Nat.pow_le_pow_right (by decide) (by omega)
  generalize 2 ^ (4 - k) = b at h
  have h2 : b ≤ 16 := h
  constructor <;> omega
section
variable {P : Program} {w : World} {K : PySem.W.Frag} {mg : Str → Option Value} {base : Heap} {C fI : Addr}

/-! ### sixteenths_at -/
theorem sc_sixteenths_at : FnScope ["graph", "configuration", "target", "found", "pebbles", "distance"] ["graph", "configuration", "target"] (defScope s_sixteenths_at) := ⟨rfl, rfl, rfl, by decide +kernel, rfl, by decide +kernel, by decide +kernel⟩
def spSix : Sp := fun vs H Q _ => ∃ (g c : Addr) (t : Nat) (G : Graph) (l : List Nat), vs = [.ref g, .ref c, .int t] ∧ GraphAt H g G ∧ Good G ∧ TupN H c l ∧ l.length = G.vertexCount ∧ t < G.vertexCount ∧
  ∀ H' : Hp, Same H H' → Q (.int (six l (distD G t) : Nat)) H'
theorem ok_sixteenths_at (T : Txt K mg C fI) {f : Addr} {fd : FuncData} (F : Fun K "sixteenths_at" "sixteenths_at" s_sixteenths_at f fd) : FnOk P w K mg base CX0 2 f fd ["graph", "configuration", "target"] spSix := by
  obtain ⟨f1, fd1, g1, F1, b1⟩ := T.d_distances
  have G1 : FnOk P w K mg base CX0 1 f1 fd1 ["graph", "target"] spDist := ok_distances T F1
  obtain ⟨tk1, k1⟩ := T.c_FAR
  obtain ⟨aS, kS, hS⟩ := T.c_SIXTEENTHS
  refine F.ok sc_sixteenths_at (fun vs H Q E h => ?_) (fun cdv A outer s0 H vs Q E hr h => ?_)
  · obtain ⟨g, c, t, G, l, rfl, _⟩ := h
    rfl
  · obtain ⟨g, c, t, G, l, rfl, hG, gG, hc, hl, ht, q⟩ := h
    have nd := sc_sixteenths_at.nd
    refine ⟨_, pss_cons (ps_set (i := 3) nd rfl (.inl rfl) pe_int)
      (pss_cons (ps_for PassesOwn.never rfl (pi_zipM (by rfl) T.m_zip (pa_cons (pv 1) (pa_cons (pe_call G1 hr (by rfl) g1 F1.kp b1 .nil pass0 (pa_cons (pv 0) (pa_cons (pv 2) pa_nil))) pa_nil)))
          (pg_tup rfl (pgs_cons (pg_name (i := 4) nd rfl (Or.inl rfl)) (pgs_cons (pg_name (i := 5) nd rfl (Or.inl rfl)) pgs_nil)))
        (pss_one (ps_if (pt_cmpR op_ne (pv 5) (pe_glob (v := .int (-1)) (by rfl) k1 ⟨_, rfl⟩) (nomark _))
          (pss_one (ps_set (i := 3) nd rfl (.inl rfl) (pe_op op_add (pv 3) (pe_op op_mul (pv 4) (pe_ix ix_tup (pe_glob (v := .ref aS) (by rfl) kS rfl) (pv 5) (fun _ _ => rfl)))))) pss_nil)))
      (pss_one (ps_ret (pv 3)))), ?_⟩
    have DO := dist_ok gG ht
    refine ⟨_, rfl, _, rfl, _, rfl, g, t, G, rfl, hG, gG, ht, fun H1 D sm1 nD hD => ?_⟩
    generalize hf : distD G t = fd0 at DO hD q
    have hfl := DO.len
    refine ⟨c, D, vn l, vi fd0, rfl, .of (sm1 _ _ hc), .of hD, ?_⟩
    have w1 : (vn l).length = G.vertexCount := by rw [vn_len, hl]
    have w2 : (vi fd0).length = G.vertexCount := by rw [vi_len, hfl]
    refine for_it (walk_zipM (K := K) (a := c) (b := D) w1 w2) (fun i σ H' => ∃ (v4 v5 : Option V), σ = [some (.ref g), some (.ref c), some (.int t), some (.int (six (l.take i) (fd0.take i) : Nat)), v4, v5] ∧ Same H1 H')
      ⟨none, none, rfl, Same.refl H1⟩ (fun i σ H' _ ⟨_, _, _, sm⟩ => ⟨.of (sm _ _ (sm1 _ _ hc)), sm.seq (.of hD)⟩) ?_ ?_
    · rintro i x σ H2 H3 hi ⟨v4, v5, rfl, sm2⟩ ⟨T0, x1, y1, rfl, nT, rfl, g1', g2'⟩
      have hx1 : x1 = .int (l.getD i 0 : Nat) := Option.some.inj ((show (vn l)[i]? = some x1 from g1').symm.trans (vn_atD (by omega)))
      have hy1 : y1 = .int (fd0.getD i 0) := Option.some.inj ((show (vi fd0)[i]? = some y1 from g2').symm.trans (vi_at (by omega)))
      subst hx1 hy1
      have smT := sm2.trans (same_new (o := .tup [.int (l.getD i 0 : Nat), .int (fd0.getD i 0)]) nT)
      refine ⟨T0, _, rfl, .of upd_same, rfl, _, _, rfl, _, _, rfl, rfl, ?_⟩
      refine ⟨_, rfl, rfl, _, rfl, ?_⟩
      have hstep := six_take (l := l) (f := fd0) (i := i) (by omega) (by omega)
      refine ifb (fun hz => ?_) (fun hz => ?_)
      · have hne : fd0.getD i 0 ≠ -1 := fun e => by rw [e] at hz; simp at hz
        cases hd : distance G i t with
        | none => exact absurd (DO.no i hi hd) hne
        | some k =>
          obtain ⟨e1, e2⟩ := DO.yes i k hi hd
          refine ⟨_, rfl, _, rfl, _, rfl, aS, _, _, _, rfl, rfl, hS _, (by rw [e1]; exact six_at k e2), _, _, rfl, rfl, .inr (pow_small k), _, _, rfl, rfl, ?_⟩
          refine ⟨some (.int (l.getD i 0 : Nat)), some (.int (fd0.getD i 0)), ?_, smT⟩
          rw [hstep]
          unfold con
          rw [if_neg hne, e1, Int.toNat_natCast]
          show List.set _ 3 (some (V.int (((six (l.take i) (fd0.take i) : Nat) : Int) + ((l.getD i 0 : Nat) : Int) * ((2 ^ (4 - k) : Nat) : Int)))) = _
          rw [← Int.natCast_mul, ← Int.natCast_add]
          rfl
      · have he : fd0.getD i 0 = -1 := by
          apply Classical.byContradiction
          intro e
          have hne : V.int (fd0.getD i 0) ≠ V.int (-1) := fun z => e (by injection z)
          rw [decide_eq_false hne] at hz
          cases hz
        refine ⟨some (.int (l.getD i 0 : Nat)), some (.int (fd0.getD i 0)), ?_, smT⟩
        rw [hstep]
        unfold con
        rw [if_pos he, Nat.add_zero]
        rfl
    · rintro σ H2 ⟨v4, v5, rfl, sm2⟩
      rw [List.take_of_length_le (by omega), List.take_of_length_le (by omega)]
      exact ⟨_, rfl, q H2 (sm1.trans sm2)⟩

/-! ### lowest_terms -/
theorem sc_lowest_terms : FnScope ["numerator", "denominator"] ["numerator", "denominator"] (defScope s_lowest_terms) := ⟨rfl, rfl, rfl, by decide +kernel, rfl, by decide +kernel, by decide +kernel⟩
def spLow : Sp := fun vs H Q _ => ∃ (a : Nat), vs = [.int a, .int 16] ∧
  ∀ (H' : Hp) (p : Addr), Same H H' → H' p = some (.lst [.int (lowN 4 a 16).1, .int (lowN 4 a 16).2]) → Q (.ref p) H'
theorem ok_lowest_terms (T : Txt K mg C fI) {f : Addr} {fd : FuncData} (F : Fun K "lowest_terms" "lowest_terms" s_lowest_terms f fd) : FnOk P w K mg base CX0 1 f fd ["numerator", "denominator"] spLow := by
  refine F.ok sc_lowest_terms (fun vs H Q E h => ?_) (fun cdv A outer s0 H vs Q E hr h => ?_)
  · obtain ⟨a, rfl, _⟩ := h
    rfl
  · obtain ⟨a, rfl, q⟩ := h
    have nd := sc_lowest_terms.nd
    refine ⟨_, pss_cons (ps_while PassesOwn.never (PW.pt (pw_and (pt_cmpR op_gt (pv 1) pe_int (nomark _)) (pw_and1 (pt_cmpR op_eq (pe_op op_mod (pv 0) pe_int) pe_int (nomark _)))))
        (pss_one (ps_par (i := 0) (j := 1) rfl nd rfl rfl (by decide) rfl rfl (pa_cons (pe_op op_fdiv (pv 0) pe_int) (pa_cons (pe_op op_fdiv (pv 1) pe_int) pa_nil)) (by rfl))))
      (pss_one (ps_ret (pe_lst (pa_cons (pv 0) (pa_cons (pv 1) pa_nil))))), ?_⟩
    -- the end
    have fin : ∀ (x y : Nat), lowN 4 a 16 = (x, y) → tRet (tLst (tCons (tVar 0) (tCons (tVar 1) tNil))) { nx := fun _ H' => Q .non H', rt := Q } [some (.int x), some (.int y)] H := fun x y e => by
      refine ⟨_, rfl, _, rfl, (by show 2 ≤ sizeLine; decide), fun p np => ?_⟩
      refine q _ p (same_new np) ?_
      rw [upd_same, e]
    refine ⟨fun m σ H' => ∃ x : Nat, σ = [some (.int x), some (.int (2 ^ m : Nat))] ∧ H' = H ∧ lowN m x (2 ^ m) = lowN 4 a 16, ⟨4, a, rfl, rfl, rfl⟩, ?_⟩
    rintro m σ H' ⟨x, rfl, rfl, hR⟩
    refine ⟨_, rfl, _, _, rfl, rfl, _, rfl, ?_⟩
    refine ifd (fun c1 => ?_) (fun c1 => ?_)
    · obtain ⟨m', rfl⟩ : ∃ m', m = m' + 1 := by
        cases m with
        | zero => exact absurd c1 (by show ¬ (1 : Int) < ((2 ^ 0 : Nat) : Int); decide)
        | succ m' => exact ⟨m', rfl⟩
      have hp : 2 ^ (m' + 1) = 2 * 2 ^ m' := by rw [Nat.pow_succ, Nat.mul_comm]
      have h1 : 1 < 2 ^ (m' + 1) := by
        have : ((1 : Nat) : Int) < ((2 ^ (m' + 1) : Nat) : Int) := c1
        exact Int.ofNat_lt.mp this
      refine ⟨_, rfl, _, _, rfl, rfl, (by show (0 : Int) < 2; decide), rfl, _, rfl, ?_⟩
      refine ifd (fun c2 => ?_) (fun c2 => ?_)
      · have c2' : x % 2 = 0 := by
          injection c2 with c3
          omega
        have hR' : lowN m' (x / 2) (2 ^ m') = lowN 4 a 16 := by
          rw [← hR]
          show _ = (if 1 < 2 ^ (m' + 1) ∧ x % 2 = 0 then lowN m' (x / 2) (2 ^ (m' + 1) / 2) else (x, 2 ^ (m' + 1)))
          rw [if_pos ⟨h1, c2'⟩, hp, Nat.mul_div_cancel_left _ (by decide)]
        refine ⟨fun σ' H2 => σ' = [some (.int (x / 2 : Nat)), some (.int (2 ^ m' : Nat))] ∧ H2 = H', fun σ' H2 ⟨e1, e2⟩ => ⟨m', Nat.lt_succ_self _, x / 2, e1, e2, hR'⟩, ?_⟩
        refine ⟨_, rfl, _, _, rfl, rfl, ⟨by decide, by decide⟩, _, rfl, _, _, rfl, rfl, ⟨by decide, by decide⟩, _, _, rfl, ?_⟩
        refine ⟨?_, rfl⟩
        show [some (V.int ((x : Int) / 2)), some (V.int (((2 ^ (m' + 1) : Nat) : Int) / 2))] = _
        have half : ∀ b : Nat, ((2 * b : Nat) : Int) / 2 = ((b : Nat) : Int) := fun b => by omega
        rw [show ((x : Nat) : Int) / 2 = ((x / 2 : Nat) : Int) by omega, hp, half]
      · have c2' : ¬ x % 2 = 0 := fun z => c2 (show V.int ((x : Int) % 2) = V.int 0 by rw [show ((x : Nat) : Int) % 2 = 0 by omega])
        refine fin x _ ?_
        rw [← hR]
        show (if 1 < 2 ^ (m' + 1) ∧ x % 2 = 0 then _ else (x, 2 ^ (m' + 1))) = _
        rw [if_neg (fun z => c2' z.2)]
    · refine fin x _ ?_
      rw [← hR]
      cases m with
      | zero => rfl
      | succ m' =>
        exfalso
        apply c1
        have : 1 < 2 ^ (m' + 1) := Nat.one_lt_two_pow (by omega)
        show ((1 : Nat) : Int) < ((2 ^ (m' + 1) : Nat) : Int)
        exact Int.ofNat_lt.mpr this

/-! ### weight -/
theorem sc_weight : FnScope ["graph", "configuration", "target"] ["graph", "configuration", "target"] (defScope s_weight) := ⟨rfl, rfl, rfl, by decide +kernel, rfl, by decide +kernel, by decide +kernel⟩
def spWeight : Sp := fun vs H Q _ => ∃ (g c : Addr) (t : Nat) (G : Graph) (l : List Nat), vs = [.ref g, .ref c, .int t] ∧ GraphAt H g G ∧ Good G ∧ TupN H c l ∧ l.length = G.vertexCount ∧ l.sum ≤ 12 ∧ t < G.vertexCount ∧
  ∀ (H' : Hp) (p : Addr), Same H H' → H' p = some (.lst [.int (weightAt G l t).num, .int ((weightAt G l t).den : Nat)]) → Q (.ref p) H'
theorem ok_weight (T : Txt K mg C fI) {f : Addr} {fd : FuncData} (F : Fun K "weight" "weight" s_weight f fd) : FnOk P w K mg base CX0 3 f fd ["graph", "configuration", "target"] spWeight := by
  obtain ⟨f1, fd1, g1, F1, b1⟩ := T.d_sixteenths_at
  have G1 : FnOk P w K mg base CX0 2 f1 fd1 ["graph", "configuration", "target"] spSix := ok_sixteenths_at T F1
  obtain ⟨f2, fd2, g2, F2, b2⟩ := T.d_lowest_terms
  have G2 : FnOk P w K mg base CX0 1 f2 fd2 ["numerator", "denominator"] spLow := ok_lowest_terms T F2
  obtain ⟨tk1, k1⟩ := T.c_WHOLE
  refine F.ok sc_weight (fun vs H Q E h => ?_) (fun cdv A outer s0 H vs Q E hr h => ?_)
  · obtain ⟨g, c, t, G, l, rfl, _⟩ := h
    rfl
  · obtain ⟨g, c, t, G, l, rfl, hG, gG, hc, hl, h12, ht, q⟩ := h
    have hr1 : Room 1 _ := hr.mono (by decide)
    refine ⟨_, pss_one (ps_ret (pe_call G2 hr1 (by rfl) g2 F2.kp b2 .nil pass0 (pa_cons (pe_call G1 hr (by rfl) g1 F1.kp b1 .nil pass0 (pa_cons (pv 0) (pa_cons (pv 1) (pa_cons (pv 2) pa_nil)))) (pa_cons (pe_glob (v := .int 16) (by rfl) k1 ⟨_, rfl⟩) pa_nil)))), ?_⟩
    obtain ⟨we, wl⟩ := weight_eq (dist_ok gG ht) hl h12
    refine ⟨_, rfl, _, rfl, _, rfl, g, c, t, G, l, rfl, hG, gG, hc, hl, ht, fun H1 sm1 => ?_⟩
    refine ⟨six l (distD G t), rfl, fun H2 p sm2 hp => q H2 p (sm1.trans sm2) ?_⟩
    rw [hp, we, low_eq _ wl]
end
end HP

namespace HP
open PySem PySem.Spec PyProof.Rows L2
open Ks577 (Graph pebblesAt distance weightAt)

theorem told5 (n t : Nat) (es peb : List Nat) : told (.weightAt n t es peb) = if Fits n es peb then (if n ≤ t then [-2] else [0, (weightAt ⟨n, prs es⟩ peb t).num, (((weightAt ⟨n, prs es⟩ peb t).den : Nat) : Int)]) else [-22] := by
  show Ks577Neutral.integers (Ks577.withConfiguration n es peb _) = _
  rw [withConf_eq]
  by_cases h : Fits n es peb
  · rw [if_pos h, if_pos h]
    by_cases h2 : n ≤ t
    · rw [if_pos h2, if_pos h2]; rfl
    · rw [if_neg h2, if_neg h2]; rfl
  · rw [if_neg h, if_neg h]; rfl
section
variable {P : Program} {w : World} {K : PySem.W.Frag} {mg : Str → Option Value} {base : Heap} {C fI : Addr}
def Req5 (K : PySem.W.Frag) (H : Hp) (vs : List V) (n t : Nat) (es peb : List Nat) : Prop := ∃ (e b : Addr), vs = [.int n, .int t, .ref e, .ref b] ∧ SqL K H e (vn es) ∧ SqL K H b (vn peb) ∧ es.length ≤ 100

/-! ### told_weight -/
theorem sc_told_weight : FnScope ["vertex_count", "target", "edges", "pebbles", "graph", "configuration"] ["vertex_count", "target", "edges", "pebbles"] (defScope s_told_weight) := ⟨rfl, rfl, rfl, by decide +kernel, rfl, by decide +kernel, by decide +kernel⟩
def spTold (K : PySem.W.Frag) (C : Addr) : Sp := fun vs H Q E => ∃ (n t : Nat) (es peb : List Nat), Req5 K H vs n t es peb ∧ Told C H (told (.weightAt n t es peb)) Q E
theorem ok_told_weight (T : Txt K mg C fI) {f : Addr} {fd : FuncData} (F : Fun K "told_weight" "told_weight" s_told_weight f fd) : FnOk P w K mg base (L2.CX P w) 5 f fd ["vertex_count", "target", "edges", "pebbles"] (spTold K C) := by
  obtain ⟨f1, fd1, g1, F1, b1⟩ := T.d_read_graph
  have G1 : FnOk P w K mg base (L2.CX P w) 4 f1 fd1 ["vertex_count", "edges"] (spGraph K C) := ok_read_graph T F1
  obtain ⟨f2, fd2, g2, F2, b2⟩ := T.d_read_pebbles
  have G2 : FnOk P w K mg base (L2.CX P w) 4 f2 fd2 ["graph", "pebbles"] (spPebbles K C) := ok_read_pebbles T F2
  obtain ⟨f3, fd3, g3, F3, b3⟩ := T.d_need_target
  have G3 : FnOk P w K mg base (L2.CX P w) 4 f3 fd3 ["graph", "target"] (spTarget C) := ok_need_target T F3
  obtain ⟨f4, fd4, g4, F4, b4⟩ := T.d_weight
  have G4 : FnOk P w K mg base CX0 3 f4 fd4 ["graph", "configuration", "target"] spWeight := ok_weight T F4
  refine F.okX sc_told_weight (fun vs H Q E h => ?_) (fun cdv A outer s H vs Q E hr h => ?_)
  · obtain ⟨n, t, es, peb, ⟨e, b, rfl, _⟩, _⟩ := h
    rfl
  · obtain ⟨n, t, es, peb, ⟨e, b, rfl, hE, hB, le⟩, qb, qg⟩ := h
    have nd := sc_told_weight.nd
    have hr3 : Room 3 _ := hr.mono (by decide)
    refine ⟨_, pss_cons (ps_set (i := 4) nd rfl (.inl rfl) (pe_call G1 hr (by rfl) g1 F1.kp b1 .nil (passes_call (takes_of rfl rfl rfl rfl) (fun _ _ _ _ h => h)) (pa_cons (pv 0) (pa_cons (pv 2) pa_nil))))
      (pss_cons (ps_set (i := 5) nd rfl (.inl rfl) (pe_call G2 hr (by rfl) g2 F2.kp b2 .nil (passes_call (takes_of rfl rfl rfl rfl) (fun _ _ _ _ h => h)) (pa_cons (pv 4) (pa_cons (pv 3) pa_nil))))
      (pss_cons (ps_expr (pe_call G3 hr (by rfl) g3 F3.kp b3 .nil (passes_call (takes_of rfl rfl rfl rfl) (fun _ _ _ _ h => h)) (pa_cons (pv 4) (pa_cons (pv 1) pa_nil))))
      (pss_one (ps_ret (pe_op op_cat (pe_lst (pa_cons pe_int pa_nil)) (pe_call G4 hr3 (by rfl) g4 F4.kp b4 .nil pass0 (pa_cons (pv 4) (pa_cons (pv 5) (pa_cons (pv 1) pa_nil))))))))), ?_⟩
    rw [told5] at qb qg
    refine ⟨_, rfl, _, rfl, n, e, es, rfl, hE, le, fun na => ?_, fun ha H1 g sm1 hG => ?_⟩
    · rw [if_neg (fun z => na z.1)] at qb
      exact qb _ rfl
    refine ⟨_, rfl, _, rfl, g, b, _, peb, rfl, hG, sm1.seq hB, fun nf => ?_, fun hf H2 c sm2 hc => ?_⟩
    · rw [if_neg (fun z => nf z.2)] at qb
      exact (qb _ rfl).mono sm1
    have hF : Fits n es peb := ⟨ha, hf⟩
    rw [if_pos hF] at qb qg
    have gG : Good ⟨n, prs es⟩ := good_of ha.1 ha.2.1 ha.2.2
    have sm12 := sm1.trans sm2
    refine ⟨_, rfl, _, rfl, g, t, _, rfl, hG.keep (.same sm2), fun hn => ?_, fun ht => ?_⟩
    · rw [if_pos (show n ≤ t from hn)] at qb
      exact (qb _ rfl).mono sm12
    have ht' : t < n := ht
    rw [if_neg (by omega)] at qb qg
    refine ⟨(by show 1 ≤ sizeLine; decide), fun l nl => ?_⟩
    have hG2 := (hG.keep (.same sm2)).keep (Tk.new (o := .lst [.int 0]) nl)
    refine ⟨_, rfl, _, rfl, _, rfl, g, c, t, _, peb, rfl, hG2, gG, hc.keep (.new nl), hf.1, hf.2, ht, fun H3 p sm3 hp => ?_⟩
    have hl3 : H3 l = some (.lst [.int 0]) := sm3 _ _ upd_same
    refine ⟨l, p, _, _, rfl, rfl, hl3, hp, (by show 3 ≤ sizeLine; decide), fun l2 nl2 => ?_⟩
    exact qg _ l2 (sm12.trans ((same_new nl).trans (sm3.trans (same_new nl2)))) upd_same

/-! ### weight_at -/
theorem sc_weight_at : FnScope ["vertex_count", "target", "edges", "pebbles", "found", "e"] ["vertex_count", "target", "edges", "pebbles"] (defScope s_weight_at) := ⟨rfl, rfl, rfl, by decide +kernel, rfl, by decide +kernel, by decide +kernel⟩
def spTop (K : PySem.W.Frag) : Sp := fun vs H Q _ => ∃ (n t : Nat) (es peb : List Nat), Req5 K H vs n t es peb ∧ Gives (told (.weightAt n t es peb)) Q
theorem ok_weight_at (T : Txt K mg C fI) {f : Addr} {fd : FuncData} (F : Fun K "weight_at" "weight_at" s_weight_at f fd) : FnOk P w K mg base CX0 6 f fd ["vertex_count", "target", "edges", "pebbles"] (spTop K) := by
  obtain ⟨f1, fd1, g1, F1, b1⟩ := T.d_told_weight
  have G1 : FnOk P w K mg base (L2.CX P w) 5 f1 fd1 ["vertex_count", "target", "edges", "pebbles"] (spTold K C) := ok_told_weight T F1
  refine F.ok sc_weight_at (fun vs H Q E h => ?_) (fun cdv A outer s H vs Q E hr h => ?_)
  · obtain ⟨n, t, es, peb, ⟨e, b, rfl, _⟩, _⟩ := h
    rfl
  · obtain ⟨n, t, es, peb, ⟨e, b, rfl, hE, hB, le⟩, q⟩ := h
    have nd := sc_weight_at.nd
    refine ⟨_, pss_cons (ps_try_as (i := 5) (tb := fun W => tAsg (tCallS (spTold K C) (WE W) (tCons (tVar 0) (tCons (tVar 1) (tCons (tVar 2) (tCons (tVar 3) tNil))))) (gName 4)) (ts := t_suite C 5 4) (Wout := fun _ _ _ _ => False) rfl rfl nd rfl rfl ⟨rfl, by decide, Or.inl T.rk.gC⟩ takes0
          (fun W pn xe tk _ => pss_one (ps_set (i := 4) nd rfl (Or.inl rfl) (by exact (pe_callS G1 hr rfl g1 F1.kp b1 (fun σ => passAt tk σ) (by exact (pa_cons (pv 0) (pa_cons (pv 1) (pa_cons (pv 2) (pa_cons (pv 3) pa_nil)))))))))
          (fun a oe cls d pn hz hf => pss_one (ps_set (i := 4) nd rfl (Or.inl rfl) (by exact (pe_lst (pa_cons (pe_xf T.rk.xf T.rk.noC hz hf (pv 5)) pa_nil))))))
      (pss_one (ps_ret (pv 4))), ?_⟩
    refine ⟨_, rfl, _, rfl, _, rfl, _, rfl, n, t, es, peb, ⟨e, b, rfl, hE, hB, le⟩, fun c hc => ?_, fun H' t sm ht => ?_⟩
    · intro d H' sm hd
      refine ⟨true, T.rk.te, fun _ a na => ?_, fun z => Bool.noConfusion z⟩
      refine ⟨_, rfl, rfl, rfl, d, _, .int c, rfl, hd, rfl, (by show 1 ≤ sizeLine; decide), fun l nl => ?_⟩
      refine ⟨_, rfl, q _ l ?_⟩
      rw [hc]
      exact upd_same
    · exact ⟨_, rfl, q _ t ht⟩
end
end HP

namespace HP
open PySem PySem.Spec PyProof.Rows L2
theorem all_mk {P : Program} {w : World} {K : PySem.W.Frag} {h : Heap} {mg : Str → Option Value} {fa C fI : Addr} {nm q0 : Str} {N0 : Addr} {bs0 : List Value} {sn0 : List Str} {sub0 : List Value} {ab0 : Bool} {col0 : Option Bool} {dd0 : Option Addr} {m0 m1 m2 m3 m5 : Option Value} {odI anI : Option Addr} {slI : Array (Option Value)} {ocI kVI dcI pmI cdI ctI : Value} {f_need : Addr} {od_need an_need : Option Addr} {sl_need : Array (Option Value)} {oc_need kV_need dc_need pm_need cd_need ct_need : Value} {f_pairs_of : Addr} {od_pairs_of an_pairs_of : Option Addr} {sl_pairs_of : Array (Option Value)} {oc_pairs_of kV_pairs_of dc_pairs_of pm_pairs_of cd_pairs_of ct_pairs_of : Value} {f_are_edges : Addr} {od_are_edges an_are_edges : Option Addr} {sl_are_edges : Array (Option Value)} {oc_are_edges kV_are_edges dc_are_edges pm_are_edges cd_are_edges ct_are_edges : Value} {f_neighbours_of : Addr} {od_neighbours_of an_neighbours_of : Option Addr} {sl_neighbours_of : Array (Option Value)} {oc_neighbours_of kV_neighbours_of dc_neighbours_of pm_neighbours_of cd_neighbours_of ct_neighbours_of : Value} {f_read_graph : Addr} {od_read_graph an_read_graph : Option Addr} {sl_read_graph : Array (Option Value)} {oc_read_graph kV_read_graph dc_read_graph pm_read_graph cd_read_graph ct_read_graph : Value} {f_read_pebbles : Addr} {od_read_pebbles an_read_pebbles : Option Addr} {sl_read_pebbles : Array (Option Value)} {oc_read_pebbles kV_read_pebbles dc_read_pebbles pm_read_pebbles cd_read_pebbles ct_read_pebbles : Value} {f_need_target : Addr} {od_need_target an_need_target : Option Addr} {sl_need_target : Array (Option Value)} {oc_need_target kV_need_target dc_need_target pm_need_target cd_need_target ct_need_target : Value} {f_distances : Addr} {od_distances an_distances : Option Addr} {sl_distances : Array (Option Value)} {oc_distances kV_distances dc_distances pm_distances cd_distances ct_distances : Value} {f_sixteenths_at : Addr} {od_sixteenths_at an_sixteenths_at : Option Addr} {sl_sixteenths_at : Array (Option Value)} {oc_sixteenths_at kV_sixteenths_at dc_sixteenths_at pm_sixteenths_at cd_sixteenths_at ct_sixteenths_at : Value} {f_lowest_terms : Addr} {od_lowest_terms an_lowest_terms : Option Addr} {sl_lowest_terms : Array (Option Value)} {oc_lowest_terms kV_lowest_terms dc_lowest_terms pm_lowest_terms cd_lowest_terms ct_lowest_terms : Value} {f_weight : Addr} {od_weight an_weight : Option Addr} {sl_weight : Array (Option Value)} {oc_weight kV_weight dc_weight pm_weight cd_weight ct_weight : Value} {f_told_weight : Addr} {od_told_weight an_told_weight : Option Addr} {sl_told_weight : Array (Option Value)} {oc_told_weight kV_told_weight dc_told_weight pm_told_weight cd_told_weight ct_told_weight : Value} {f_weight_at : Addr} {od_weight_at an_weight_at : Option Addr} {sl_weight_at : Array (Option Value)} {oc_weight_at kV_weight_at dc_weight_at pm_weight_at cd_weight_at ct_weight_at : Value} {tk_NO_TARGET : Tok} {tk_OUT_OF_LIMITS : Tok} {tk_MOST_VERTICES : Tok} {tk_MOST_PEBBLES : Tok} {tk_FAR : Tok} {t_SIXTEENTHS : Addr} {od_SIXTEENTHS : Option Addr} {nn_SIXTEENTHS : Nat} {sl_SIXTEENTHS : Array (Option Value)} {tk0_SIXTEENTHS tk1_SIXTEENTHS tk2_SIXTEENTHS tk3_SIXTEENTHS tk4_SIXTEENTHS : Tok} {tk_WHOLE : Tok} (X : K.In h) (G : h.Ns mainGlobals mg) (hfa : mg "weight_at" = some (.ref fa))
    (aC : PySem.W.nsIn K mainGlobals "Refused" = some (some (.ref C)))
    (xL : K.lookup C = some (excClassObj nm q0 C N0 bs0 [.type "ValueError", .type "Exception", .type "BaseException", .type "object"] true sn0 sub0 ab0 col0 dd0 m0 m1 m2 m3 m5 "ValueError.__new__"))
    (sa : PySem.W.findIn K (.ref C) "__setattr__" = some (some (.builtin "object.__setattr__")))
    (ga : PySem.W.findIn K (.ref C) "__getattribute__" = some (some (.builtin "BaseException.__getattribute__")))
    (gg : PySem.W.findIn K (.ref C) "__getattr__" = some none)
    (nc : PySem.W.findIn K (.ref C) "code" = some none)
    (aI : PySem.W.findIn K (.ref C) "__init__" = some (some (.ref fI)))
    (tI : PySem.W.typeIn K (.ref fI) = some (.type "function"))
    (lI : K.lookup fI = some ⟨ocI, odI, .func (PySem.W.fnOf "__init__" "Refused.__init__" (defArgs sInit) (defBody sInit) (defScope sInit) .none kVI dcI pmI anI cdI ctI), slI⟩)
    (cI : PySem.W.codeIn K cdI "Refused.__init__" = true)
    (kI : PySem.W.keepIn K (.ref fI) = true)
    (kC : PySem.W.keepIn K (.ref C) = true)
    (eC : PySem.W.subIn K (.ref C) (.type "BaseException") = some true)
    (tC : PySem.W.typeIn K (.ref C) = some (.type "type"))
    (hC : PySem.W.hasDictIn K C = true)
    (iC : PySem.W.isClsIn K C = true)
    (sC : PySem.W.subIn K (.ref C) (.ref C) = some true)
    (vV : PySem.W.findCls K (.type "ValueError") (.type "type") "__init__" = some (.val (.builtin "ValueError.__init__")))
    (a_need : PySem.W.nsIn K mainGlobals "need" = some (some (.ref f_need)))
    (l_need : K.lookup f_need = some ⟨oc_need, od_need, .func (PySem.W.fnOf "need" "need" (defArgs s_need) (defBody s_need) (defScope s_need) .none kV_need dc_need pm_need an_need cd_need ct_need), sl_need⟩)
    (c_need : PySem.W.codeIn K cd_need "need" = true)
    (k_need : PySem.W.keepIn K (.ref f_need) = true)
    (a_pairs_of : PySem.W.nsIn K mainGlobals "pairs_of" = some (some (.ref f_pairs_of)))
    (l_pairs_of : K.lookup f_pairs_of = some ⟨oc_pairs_of, od_pairs_of, .func (PySem.W.fnOf "pairs_of" "pairs_of" (defArgs s_pairs_of) (defBody s_pairs_of) (defScope s_pairs_of) .none kV_pairs_of dc_pairs_of pm_pairs_of an_pairs_of cd_pairs_of ct_pairs_of), sl_pairs_of⟩)
    (c_pairs_of : PySem.W.codeIn K cd_pairs_of "pairs_of" = true)
    (k_pairs_of : PySem.W.keepIn K (.ref f_pairs_of) = true)
    (a_are_edges : PySem.W.nsIn K mainGlobals "are_edges" = some (some (.ref f_are_edges)))
    (l_are_edges : K.lookup f_are_edges = some ⟨oc_are_edges, od_are_edges, .func (PySem.W.fnOf "are_edges" "are_edges" (defArgs s_are_edges) (defBody s_are_edges) (defScope s_are_edges) .none kV_are_edges dc_are_edges pm_are_edges an_are_edges cd_are_edges ct_are_edges), sl_are_edges⟩)
    (c_are_edges : PySem.W.codeIn K cd_are_edges "are_edges" = true)
    (k_are_edges : PySem.W.keepIn K (.ref f_are_edges) = true)
    (a_neighbours_of : PySem.W.nsIn K mainGlobals "neighbours_of" = some (some (.ref f_neighbours_of)))
    (l_neighbours_of : K.lookup f_neighbours_of = some ⟨oc_neighbours_of, od_neighbours_of, .func (PySem.W.fnOf "neighbours_of" "neighbours_of" (defArgs s_neighbours_of) (defBody s_neighbours_of) (defScope s_neighbours_of) .none kV_neighbours_of dc_neighbours_of pm_neighbours_of an_neighbours_of cd_neighbours_of ct_neighbours_of), sl_neighbours_of⟩)
    (c_neighbours_of : PySem.W.codeIn K cd_neighbours_of "neighbours_of" = true)
    (k_neighbours_of : PySem.W.keepIn K (.ref f_neighbours_of) = true)
    (a_read_graph : PySem.W.nsIn K mainGlobals "read_graph" = some (some (.ref f_read_graph)))
    (l_read_graph : K.lookup f_read_graph = some ⟨oc_read_graph, od_read_graph, .func (PySem.W.fnOf "read_graph" "read_graph" (defArgs s_read_graph) (defBody s_read_graph) (defScope s_read_graph) .none kV_read_graph dc_read_graph pm_read_graph an_read_graph cd_read_graph ct_read_graph), sl_read_graph⟩)
    (c_read_graph : PySem.W.codeIn K cd_read_graph "read_graph" = true)
    (k_read_graph : PySem.W.keepIn K (.ref f_read_graph) = true)
    (a_read_pebbles : PySem.W.nsIn K mainGlobals "read_pebbles" = some (some (.ref f_read_pebbles)))
    (l_read_pebbles : K.lookup f_read_pebbles = some ⟨oc_read_pebbles, od_read_pebbles, .func (PySem.W.fnOf "read_pebbles" "read_pebbles" (defArgs s_read_pebbles) (defBody s_read_pebbles) (defScope s_read_pebbles) .none kV_read_pebbles dc_read_pebbles pm_read_pebbles an_read_pebbles cd_read_pebbles ct_read_pebbles), sl_read_pebbles⟩)
    (c_read_pebbles : PySem.W.codeIn K cd_read_pebbles "read_pebbles" = true)
    (k_read_pebbles : PySem.W.keepIn K (.ref f_read_pebbles) = true)
    (a_need_target : PySem.W.nsIn K mainGlobals "need_target" = some (some (.ref f_need_target)))
    (l_need_target : K.lookup f_need_target = some ⟨oc_need_target, od_need_target, .func (PySem.W.fnOf "need_target" "need_target" (defArgs s_need_target) (defBody s_need_target) (defScope s_need_target) .none kV_need_target dc_need_target pm_need_target an_need_target cd_need_target ct_need_target), sl_need_target⟩)
    (c_need_target : PySem.W.codeIn K cd_need_target "need_target" = true)
    (k_need_target : PySem.W.keepIn K (.ref f_need_target) = true)
    (a_distances : PySem.W.nsIn K mainGlobals "distances" = some (some (.ref f_distances)))
    (l_distances : K.lookup f_distances = some ⟨oc_distances, od_distances, .func (PySem.W.fnOf "distances" "distances" (defArgs s_distances) (defBody s_distances) (defScope s_distances) .none kV_distances dc_distances pm_distances an_distances cd_distances ct_distances), sl_distances⟩)
    (c_distances : PySem.W.codeIn K cd_distances "distances" = true)
    (k_distances : PySem.W.keepIn K (.ref f_distances) = true)
    (a_sixteenths_at : PySem.W.nsIn K mainGlobals "sixteenths_at" = some (some (.ref f_sixteenths_at)))
    (l_sixteenths_at : K.lookup f_sixteenths_at = some ⟨oc_sixteenths_at, od_sixteenths_at, .func (PySem.W.fnOf "sixteenths_at" "sixteenths_at" (defArgs s_sixteenths_at) (defBody s_sixteenths_at) (defScope s_sixteenths_at) .none kV_sixteenths_at dc_sixteenths_at pm_sixteenths_at an_sixteenths_at cd_sixteenths_at ct_sixteenths_at), sl_sixteenths_at⟩)
    (c_sixteenths_at : PySem.W.codeIn K cd_sixteenths_at "sixteenths_at" = true)
    (k_sixteenths_at : PySem.W.keepIn K (.ref f_sixteenths_at) = true)
    (a_lowest_terms : PySem.W.nsIn K mainGlobals "lowest_terms" = some (some (.ref f_lowest_terms)))
    (l_lowest_terms : K.lookup f_lowest_terms = some ⟨oc_lowest_terms, od_lowest_terms, .func (PySem.W.fnOf "lowest_terms" "lowest_terms" (defArgs s_lowest_terms) (defBody s_lowest_terms) (defScope s_lowest_terms) .none kV_lowest_terms dc_lowest_terms pm_lowest_terms an_lowest_terms cd_lowest_terms ct_lowest_terms), sl_lowest_terms⟩)
    (c_lowest_terms : PySem.W.codeIn K cd_lowest_terms "lowest_terms" = true)
    (k_lowest_terms : PySem.W.keepIn K (.ref f_lowest_terms) = true)
    (a_weight : PySem.W.nsIn K mainGlobals "weight" = some (some (.ref f_weight)))
    (l_weight : K.lookup f_weight = some ⟨oc_weight, od_weight, .func (PySem.W.fnOf "weight" "weight" (defArgs s_weight) (defBody s_weight) (defScope s_weight) .none kV_weight dc_weight pm_weight an_weight cd_weight ct_weight), sl_weight⟩)
    (c_weight : PySem.W.codeIn K cd_weight "weight" = true)
    (k_weight : PySem.W.keepIn K (.ref f_weight) = true)
    (a_told_weight : PySem.W.nsIn K mainGlobals "told_weight" = some (some (.ref f_told_weight)))
    (l_told_weight : K.lookup f_told_weight = some ⟨oc_told_weight, od_told_weight, .func (PySem.W.fnOf "told_weight" "told_weight" (defArgs s_told_weight) (defBody s_told_weight) (defScope s_told_weight) .none kV_told_weight dc_told_weight pm_told_weight an_told_weight cd_told_weight ct_told_weight), sl_told_weight⟩)
    (c_told_weight : PySem.W.codeIn K cd_told_weight "told_weight" = true)
    (k_told_weight : PySem.W.keepIn K (.ref f_told_weight) = true)
    (a_weight_at : PySem.W.nsIn K mainGlobals "weight_at" = some (some (.ref f_weight_at)))
    (l_weight_at : K.lookup f_weight_at = some ⟨oc_weight_at, od_weight_at, .func (PySem.W.fnOf "weight_at" "weight_at" (defArgs s_weight_at) (defBody s_weight_at) (defScope s_weight_at) .none kV_weight_at dc_weight_at pm_weight_at an_weight_at cd_weight_at ct_weight_at), sl_weight_at⟩)
    (c_weight_at : PySem.W.codeIn K cd_weight_at "weight_at" = true)
    (k_weight_at : PySem.W.keepIn K (.ref f_weight_at) = true)
    (n_NO_TARGET : PySem.W.nsIn K mainGlobals "NO_TARGET" = some (some (.int (-2) tk_NO_TARGET)))
    (n_OUT_OF_LIMITS : PySem.W.nsIn K mainGlobals "OUT_OF_LIMITS" = some (some (.int (-22) tk_OUT_OF_LIMITS)))
    (n_MOST_VERTICES : PySem.W.nsIn K mainGlobals "MOST_VERTICES" = some (some (.int 5 tk_MOST_VERTICES)))
    (n_MOST_PEBBLES : PySem.W.nsIn K mainGlobals "MOST_PEBBLES" = some (some (.int 12 tk_MOST_PEBBLES)))
    (n_FAR : PySem.W.nsIn K mainGlobals "FAR" = some (some (.int (-1) tk_FAR)))
    (n_SIXTEENTHS : PySem.W.nsIn K mainGlobals "SIXTEENTHS" = some (some (.ref t_SIXTEENTHS)))
    (l_SIXTEENTHS : K.lookup t_SIXTEENTHS = some ⟨.type "tuple", od_SIXTEENTHS, .seq #[.int 16 tk0_SIXTEENTHS, .int 8 tk1_SIXTEENTHS, .int 4 tk2_SIXTEENTHS, .int 2 tk3_SIXTEENTHS, .int 1 tk4_SIXTEENTHS] nn_SIXTEENTHS, sl_SIXTEENTHS⟩)
    (n_WHOLE : PySem.W.nsIn K mainGlobals "WHOLE" = some (some (.int 16 tk_WHOLE)))
    (z_len : PySem.W.nsIn K mainGlobals "len" = some none)
    (z_range : PySem.W.nsIn K mainGlobals "range" = some none)
    (z_all : PySem.W.nsIn K mainGlobals "all" = some none)
    (z_zip : PySem.W.nsIn K mainGlobals "zip" = some none)
    (z_tuple : PySem.W.nsIn K mainGlobals "tuple" = some none)
    (z_sum : PySem.W.nsIn K mainGlobals "sum" = some none)
    (z_ValueError : PySem.W.nsIn K mainGlobals "ValueError" = some none)
    : ∃ fd : FuncData, (∀ (s : Shared) (us : List Value), us.length = (["vertex_count", "target", "edges", "pebbles"] : List Str).length → BindsTo s fd ⟨us, []⟩ ((["vertex_count", "target", "edges", "pebbles"] : List Str).zip us)) ∧ ∀ base : Heap, K.In base → base.Ns mainGlobals mg → FnOk P w K mg base CX0 6 fa fd ["vertex_count", "target", "edges", "pebbles"] (spTop K) := by
  have e := hfa.symm.trans (PySem.W.mg_of X G a_weight_at)
  cases e
  have FI := fun_mk (st := sInit) lI cI kI
  have bI := FI.binds (ps := ["self", "code"]) fun _ _ _ _ _ _ us hl => match us, hl with | [_, _], _ => rfl
  have F_need := fun_mk (st := s_need) l_need c_need k_need
  have b_need := F_need.binds (ps := ["truth", "code"]) fun _ _ _ _ _ _ us hl => match us, hl with | [_, _], _ => rfl
  have F_pairs_of := fun_mk (st := s_pairs_of) l_pairs_of c_pairs_of k_pairs_of
  have b_pairs_of := F_pairs_of.binds (ps := ["row"]) fun _ _ _ _ _ _ us hl => match us, hl with | [_], _ => rfl
  have F_are_edges := fun_mk (st := s_are_edges) l_are_edges c_are_edges k_are_edges
  have b_are_edges := F_are_edges.binds (ps := ["vertex_count", "edges"]) fun _ _ _ _ _ _ us hl => match us, hl with | [_, _], _ => rfl
  have F_neighbours_of := fun_mk (st := s_neighbours_of) l_neighbours_of c_neighbours_of k_neighbours_of
  have b_neighbours_of := F_neighbours_of.binds (ps := ["vertex", "pairs"]) fun _ _ _ _ _ _ us hl => match us, hl with | [_, _], _ => rfl
  have F_read_graph := fun_mk (st := s_read_graph) l_read_graph c_read_graph k_read_graph
  have b_read_graph := F_read_graph.binds (ps := ["vertex_count", "edges"]) fun _ _ _ _ _ _ us hl => match us, hl with | [_, _], _ => rfl
  have F_read_pebbles := fun_mk (st := s_read_pebbles) l_read_pebbles c_read_pebbles k_read_pebbles
  have b_read_pebbles := F_read_pebbles.binds (ps := ["graph", "pebbles"]) fun _ _ _ _ _ _ us hl => match us, hl with | [_, _], _ => rfl
  have F_need_target := fun_mk (st := s_need_target) l_need_target c_need_target k_need_target
  have b_need_target := F_need_target.binds (ps := ["graph", "target"]) fun _ _ _ _ _ _ us hl => match us, hl with | [_, _], _ => rfl
  have F_distances := fun_mk (st := s_distances) l_distances c_distances k_distances
  have b_distances := F_distances.binds (ps := ["graph", "target"]) fun _ _ _ _ _ _ us hl => match us, hl with | [_, _], _ => rfl
  have F_sixteenths_at := fun_mk (st := s_sixteenths_at) l_sixteenths_at c_sixteenths_at k_sixteenths_at
  have b_sixteenths_at := F_sixteenths_at.binds (ps := ["graph", "configuration", "target"]) fun _ _ _ _ _ _ us hl => match us, hl with | [_, _, _], _ => rfl
  have F_lowest_terms := fun_mk (st := s_lowest_terms) l_lowest_terms c_lowest_terms k_lowest_terms
  have b_lowest_terms := F_lowest_terms.binds (ps := ["numerator", "denominator"]) fun _ _ _ _ _ _ us hl => match us, hl with | [_, _], _ => rfl
  have F_weight := fun_mk (st := s_weight) l_weight c_weight k_weight
  have b_weight := F_weight.binds (ps := ["graph", "configuration", "target"]) fun _ _ _ _ _ _ us hl => match us, hl with | [_, _, _], _ => rfl
  have F_told_weight := fun_mk (st := s_told_weight) l_told_weight c_told_weight k_told_weight
  have b_told_weight := F_told_weight.binds (ps := ["vertex_count", "target", "edges", "pebbles"]) fun _ _ _ _ _ _ us hl => match us, hl with | [_, _, _, _], _ => rfl
  have F_weight_at := fun_mk (st := s_weight_at) l_weight_at c_weight_at k_weight_at
  have b_weight_at := F_weight_at.binds (ps := ["vertex_count", "target", "edges", "pebbles"]) fun _ _ _ _ _ _ us hl => match us, hl with | [_, _, _, _], _ => rfl
  have rk : Rk K mg C fI :=
    { gC := PySem.W.mg_of X G aC, ox := { cls := ⟨nm, q0, N0, bs0, _, sn0, sub0, ab0, col0, dd0, m0, m1, m2, m3, m5, xL, by decide +kernel⟩, sa := sa, exC := eC, tyC := tC, kC := kC }, iC := aI, tI := tI, noC := nc, vV := vV,
      xf := ⟨ga, gg, eC, hC⟩, te := exm_self eC iC tC sC, ini := ⟨_, FI, bI⟩ }
  have T : Txt K mg C fI :=
    { rk := rk
      d_need := ⟨_, _, PySem.W.mg_of X G a_need, F_need, b_need⟩
      d_pairs_of := ⟨_, _, PySem.W.mg_of X G a_pairs_of, F_pairs_of, b_pairs_of⟩
      d_are_edges := ⟨_, _, PySem.W.mg_of X G a_are_edges, F_are_edges, b_are_edges⟩
      d_neighbours_of := ⟨_, _, PySem.W.mg_of X G a_neighbours_of, F_neighbours_of, b_neighbours_of⟩
      d_read_graph := ⟨_, _, PySem.W.mg_of X G a_read_graph, F_read_graph, b_read_graph⟩
      d_read_pebbles := ⟨_, _, PySem.W.mg_of X G a_read_pebbles, F_read_pebbles, b_read_pebbles⟩
      d_need_target := ⟨_, _, PySem.W.mg_of X G a_need_target, F_need_target, b_need_target⟩
      d_distances := ⟨_, _, PySem.W.mg_of X G a_distances, F_distances, b_distances⟩
      d_sixteenths_at := ⟨_, _, PySem.W.mg_of X G a_sixteenths_at, F_sixteenths_at, b_sixteenths_at⟩
      d_lowest_terms := ⟨_, _, PySem.W.mg_of X G a_lowest_terms, F_lowest_terms, b_lowest_terms⟩
      d_weight := ⟨_, _, PySem.W.mg_of X G a_weight, F_weight, b_weight⟩
      d_told_weight := ⟨_, _, PySem.W.mg_of X G a_told_weight, F_told_weight, b_told_weight⟩
      d_weight_at := ⟨_, _, PySem.W.mg_of X G a_weight_at, F_weight_at, b_weight_at⟩
      c_NO_TARGET := ⟨_, PySem.W.mg_of X G n_NO_TARGET⟩
      c_OUT_OF_LIMITS := ⟨_, PySem.W.mg_of X G n_OUT_OF_LIMITS⟩
      c_MOST_VERTICES := ⟨_, PySem.W.mg_of X G n_MOST_VERTICES⟩
      c_MOST_PEBBLES := ⟨_, PySem.W.mg_of X G n_MOST_PEBBLES⟩
      c_FAR := ⟨_, PySem.W.mg_of X G n_FAR⟩
      c_SIXTEENTHS := ⟨_, PySem.W.mg_of X G n_SIXTEENTHS, fun H => .inr ⟨_, _, _, l_SIXTEENTHS, rfl, rfl, (by show 5 ≤ sizeLine; decide), .cons ⟨_, rfl⟩ (.cons ⟨_, rfl⟩ (.cons ⟨_, rfl⟩ (.cons ⟨_, rfl⟩ (.cons ⟨_, rfl⟩ (.nil)))))⟩⟩
      c_WHOLE := ⟨_, PySem.W.mg_of X G n_WHOLE⟩
      m_len := PySem.W.mg_none_of X G z_len
      m_range := PySem.W.mg_none_of X G z_range
      m_all := PySem.W.mg_none_of X G z_all
      m_zip := PySem.W.mg_none_of X G z_zip
      m_tuple := PySem.W.mg_none_of X G z_tuple
      m_sum := PySem.W.mg_none_of X G z_sum
      m_ValueError := PySem.W.mg_none_of X G z_ValueError }
  exact ⟨_, fun s us hu => match us, hu with | [_, _, _, _], _ => .of_eq rfl, fun base _ _ => ok_weight_at T F_weight_at⟩

end HP
open PySem PySem.W PyProof.Rows
set_option maxRecDepth 100000 in
set_option maxHeartbeats 8000000 in
theorem PySem.Challenge.cw_halvedpebbles_s05_weight_at_holds : PySem.Challenge.rw_halvedpebbles_s05_weight_at.Holds := by
  w_on; k_headS; (case hw => exact ⟨[.int 1, .int 0, .list [], .list []], by decide +kernel, by decide +kernel⟩)
  k_fillS
  refine L2.walk_specK (r := PySem.Challenge.rw_halvedpebbles_s05_weight_at) (k := 6) (CX := L2.CX0) (ps := ["vertex_count", "target", "edges", "pebbles"]) (sp := HP.spTop) (by decide +kernel) rfl rfl ⟨rfl, by decide, by decide⟩ (fun w h Y => PySem.W.kIn_of Y) ?F ?S (fun _ _ _ _ z => z)
  case F =>
    intro w mg fa h Y KX G hmg
    refine' HP.all_mk KX G hmg ?aC ?xL ?sa ?ga ?gg ?nc ?aI ?tI ?lI ?cI ?kI ?kC ?eC ?tC ?hC ?iC ?sC ?vV ?a_need ?l_need ?c_need ?k_need ?a_pairs_of ?l_pairs_of ?c_pairs_of ?k_pairs_of ?a_are_edges ?l_are_edges ?c_are_edges ?k_are_edges ?a_neighbours_of ?l_neighbours_of ?c_neighbours_of ?k_neighbours_of ?a_read_graph ?l_read_graph ?c_read_graph ?k_read_graph ?a_read_pebbles ?l_read_pebbles ?c_read_pebbles ?k_read_pebbles ?a_need_target ?l_need_target ?c_need_target ?k_need_target ?a_distances ?l_distances ?c_distances ?k_distances ?a_sixteenths_at ?l_sixteenths_at ?c_sixteenths_at ?k_sixteenths_at ?a_lowest_terms ?l_lowest_terms ?c_lowest_terms ?k_lowest_terms ?a_weight ?l_weight ?c_weight ?k_weight ?a_told_weight ?l_told_weight ?c_told_weight ?k_told_weight ?a_weight_at ?l_weight_at ?c_weight_at ?k_weight_at ?n_NO_TARGET ?n_OUT_OF_LIMITS ?n_MOST_VERTICES ?n_MOST_PEBBLES ?n_FAR ?n_SIXTEENTHS ?l_SIXTEENTHS ?n_WHOLE ?z_len ?z_range ?z_all ?z_zip ?z_tuple ?z_sum ?z_ValueError
    (case aC => k_is)
    (case xL => k_is)
    (case sa => k_is)
    (case ga => k_is)
    (case gg => k_is)
    (case nc => k_is)
    (case aI => k_is)
    (case tI => k_is)
    (case lI => k_is)
    (case cI => k_is)
    (case kI => k_is)
    (case kC => k_is)
    (case eC => k_is)
    (case tC => k_is)
    (case hC => k_is)
    (case iC => k_is)
    (case sC => first | rfl | k_is)
    (case vV => first | k_is | decide +kernel | rfl)
    (case a_need => k_is)
    (case l_need => k_is)
    (case c_need => k_is)
    (case k_need => k_is)
    (case a_pairs_of => k_is)
    (case l_pairs_of => k_is)
    (case c_pairs_of => k_is)
    (case k_pairs_of => k_is)
    (case a_are_edges => k_is)
    (case l_are_edges => k_is)
    (case c_are_edges => k_is)
    (case k_are_edges => k_is)
    (case a_neighbours_of => k_is)
    (case l_neighbours_of => k_is)
    (case c_neighbours_of => k_is)
    (case k_neighbours_of => k_is)
    (case a_read_graph => k_is)
    (case l_read_graph => k_is)
    (case c_read_graph => k_is)
    (case k_read_graph => k_is)
    (case a_read_pebbles => k_is)
    (case l_read_pebbles => k_is)
    (case c_read_pebbles => k_is)
    (case k_read_pebbles => k_is)
    (case a_need_target => k_is)
    (case l_need_target => k_is)
    (case c_need_target => k_is)
    (case k_need_target => k_is)
    (case a_distances => k_is)
    (case l_distances => k_is)
    (case c_distances => k_is)
    (case k_distances => k_is)
    (case a_sixteenths_at => k_is)
    (case l_sixteenths_at => k_is)
    (case c_sixteenths_at => k_is)
    (case k_sixteenths_at => k_is)
    (case a_lowest_terms => k_is)
    (case l_lowest_terms => k_is)
    (case c_lowest_terms => k_is)
    (case k_lowest_terms => k_is)
    (case a_weight => k_is)
    (case l_weight => k_is)
    (case c_weight => k_is)
    (case k_weight => k_is)
    (case a_told_weight => k_is)
    (case l_told_weight => k_is)
    (case c_told_weight => k_is)
    (case k_told_weight => k_is)
    (case a_weight_at => k_is)
    (case l_weight_at => k_is)
    (case c_weight_at => k_is)
    (case k_weight_at => k_is)
    (case n_NO_TARGET => k_is)
    (case n_OUT_OF_LIMITS => k_is)
    (case n_MOST_VERTICES => k_is)
    (case n_MOST_PEBBLES => k_is)
    (case n_FAR => k_is)
    (case n_SIXTEENTHS => k_is)
    (case l_SIXTEENTHS => k_is)
    (case n_WHOLE => k_is)
    (case z_len => k_is)
    (case z_range => k_is)
    (case z_all => k_is)
    (case z_zip => k_is)
    (case z_tuple => k_is)
    (case z_sum => k_is)
    (case z_ValueError => k_is)
  case S =>
    intro K H xs a hO hwi hask hx
    obtain ⟨vc, tg, es, peb, u⟩ := a
    cases hx with
    | cons h0 r0 =>
      cases r0 with
      | cons h1 r1 =>
        cases r1 with
        | cons h2 r2 =>
          cases r2 with
          | cons h3 r3 =>
            cases r3
            cases h0
            cases h1
            cases h2 with
            | lst hs2 ha2 =>
              cases h3 with
              | lst hs3 ha3 =>
                have e2 := L2.ints_dw es _ ha2
                have e3 := L2.ints_dw peb _ ha3
                subst e2 e3
                have q : (Codec.inInt 0 4294967295 vc && (Codec.inInt 0 4294967295 tg && ((Codec.inLen 0 22 es && es.all (Codec.inInt 0 4294967295)) && ((Codec.inLen 0 7 peb && peb.all (Codec.inInt 0 4294967295)) && true)))) = true := hwi
                simp only [Bool.and_eq_true] at q
                obtain ⟨q0, q1, ⟨p2, q2⟩, ⟨p3, q3⟩, _⟩ := q
                have n0 := HP.in_nonneg q0
                have n1 := HP.in_nonneg q1
                have n2 := HP.all_nonneg q2
                have n3 := HP.all_nonneg q3
                refine ⟨vc.toNat, tg.toNat, HP.nats es, HP.nats peb, ⟨_, _, ?_, by rw [HP.vn_nats n2]; exact hs2, by rw [HP.vn_nats n3]; exact hs3, ?_⟩, fun H' t ht => .lst (L2.SqL.of ht) (L2.dw_ints _)⟩
                · rw [Int.toNat_of_nonneg n0, Int.toNat_of_nonneg n1]
                · rw [HP.nats_len]; have := (Codec.inNat_iff.mp p2).2; omega
#print axioms PySem.Challenge.cw_halvedpebbles_s05_weight_at_holds
