import PyProof.Rows.All
import Wide.All
import OpenK.AllK
import Wide.FinOn
import PyProof.EqAt
import PyProof.EqKinds
import PyProof.TupleCall
import Open.SpecLaws
import KE.OsGo
import PySem.Challenge.RW_halvedpebbles_s04_reachable_vertices
import HandS.ForSpec
import HandS.Comp
import HandS.Dict
import HandS.Iter
import HandS.Zip
import HandS.Walk
import HandS.ExcInit
import HandS.ExcField
import HandS.Style
import KE.KTupSum
import KE.KDictDisplayH
set_option Elab.async false
set_option linter.all false
set_option maxRecDepth 100000
set_option maxHeartbeats 2000000
namespace HP
open Ks577 (Graph isAdjacent parseEdges possibleMoves canMove pebblesAt move)

/-- the pairs that a row tells -/
def prs : List Nat → List (Nat × Nat)
  | u :: v :: r => (u, v) :: prs r
  | _ => []
theorem prs_get : ∀ (r : List Nat) (i : Nat), 2 * i + 1 < r.length → (prs r)[i]? = some (r.getD (2 * i) 0, r.getD (2 * i + 1) 0)
  | [], _, h => by simp at h
  | [_], i, h => by simp at h
  | u :: v :: r, 0, _ => rfl
  | u :: v :: r, i + 1, h => by
    have ih := prs_get r i (by simp at h; omega)
    show (prs r)[i]? = some ((u :: v :: r).getD (2 * (i + 1)) 0, (u :: v :: r).getD (2 * (i + 1) + 1) 0)
    rw [ih]
    rfl
theorem prs_len : ∀ (r : List Nat), r.length % 2 = 0 → (prs r).length * 2 = r.length
  | [], _ => rfl
  | [_], h => by simp at h
  | u :: v :: r, h => by
    have ih := prs_len r (by simp at h; omega)
    show ((prs r).length + 1) * 2 = r.length + 1 + 1
    omega
theorem prs_take (r : List Nat) (i : Nat) (h : 2 * i + 1 < r.length) : (prs r).take (i + 1) = (prs r).take i ++ [(r.getD (2 * i) 0, r.getD (2 * i + 1) 0)] := by
  rw [List.take_add_one, prs_get r i h]
  rfl
theorem prs_mem : ∀ (r : List Nat) (p : Nat × Nat), p ∈ prs r → p.1 ∈ r ∧ p.2 ∈ r
  | [], p, h => by simp [prs] at h
  | [_], p, h => by simp [prs] at h
  | u :: v :: r, p, h => by
    rcases List.mem_cons.mp h with e | h
    · subst e; simp
    · have ih := prs_mem r p h
      exact ⟨List.mem_cons_of_mem _ (List.mem_cons_of_mem _ ih.1), List.mem_cons_of_mem _ (List.mem_cons_of_mem _ ih.2)⟩

/-- (a, b) below (c, d) -/
def lx (p q : Nat × Nat) : Bool := decide (p.1 < q.1) || (decide (p.1 = q.1) && decide (p.2 < q.2))
theorem lx_iff {p q : Nat × Nat} : lx p q = true ↔ p.1 < q.1 ∨ (p.1 = q.1 ∧ p.2 < q.2) := by
  unfold lx; simp
theorem lx_trans {p q r : Nat × Nat} (h1 : lx p q = true) (h2 : lx q r = true) : lx p r = true := by
  rw [lx_iff] at *; omega
/-- every end below the next one's -/
def rising (ps : List (Nat × Nat)) : Bool := (ps.zip (ps.drop 1)).all fun q => lx q.1 q.2
def inside (n : Nat) (ps : List (Nat × Nat)) : Bool := ps.all fun p => decide (p.1 < p.2) && decide (p.2 < n)
def edgesOk (n : Nat) (row : List Nat) : Bool := decide (row.length % 2 = 0) && (inside n (prs row) && rising (prs row))
theorem rising_cons2 (p q : Nat × Nat) (r : List (Nat × Nat)) : rising (p :: q :: r) = (lx p q && rising (q :: r)) := by
  unfold rising; simp
theorem parse_eq (n : Nat) : ∀ row : List Nat, parseEdges n row = if edgesOk n row = true then some (prs row) else none
  | [] => rfl
  | [_] => rfl
  | u :: v :: rest => by
    have ih := parse_eq n rest
    unfold parseEdges
    have hl : ((u :: v :: rest).length % 2 = 0) ↔ (rest.length % 2 = 0) := by simp; omega
    by_cases h1 : v ≤ u ∨ n ≤ v
    · rw [if_pos h1, if_neg]
      intro z
      unfold edgesOk inside prs at z
      simp at z
      omega
    · rw [if_neg h1, ih]
      have h2 : u < v ∧ v < n := by omega
      by_cases h3 : edgesOk n rest = true
      · rw [if_pos h3]
        unfold edgesOk at h3
        simp only [Bool.and_eq_true, decide_eq_true_eq] at h3
        obtain ⟨e1, e2, e3⟩ := h3
        cases hp : prs rest with
        | nil =>
          have : edgesOk n (u :: v :: rest) = true := by
            unfold edgesOk prs
            rw [hp]
            simp only [Bool.and_eq_true, decide_eq_true_eq]
            refine ⟨hl.mpr e1, ?_, rfl⟩
            unfold inside; simp; omega
          rw [if_pos this]
          unfold prs
          rw [hp]
        | cons q r =>
          rw [hp] at e2 e3
          have key : edgesOk n (u :: v :: rest) = lx (u, v) q := by
            unfold edgesOk prs
            rw [hp, rising_cons2, e3, decide_eq_true (hl.mpr e1)]
            have : inside n ((u, v) :: q :: r) = true := by
              unfold inside at *
              rw [List.all_cons, e2]
              simp; omega
            rw [this]; simp
          dsimp only
          by_cases h4 : u < q.1 ∨ (u = q.1 ∧ v < q.2)
          · rw [if_pos h4, if_pos (key.trans (lx_iff.mpr h4))]
            unfold prs
            rw [hp]
          · rw [if_neg h4, if_neg]
            intro z
            exact h4 (lx_iff.mp (key.symm.trans z))
      · rw [if_neg h3]
        dsimp only
        rw [if_neg]
        intro z
        apply h3
        unfold edgesOk prs at z
        unfold edgesOk
        simp only [Bool.and_eq_true, decide_eq_true_eq] at z ⊢
        refine ⟨hl.mp z.1, ?_, ?_⟩
        · have := z.2.1
          unfold inside at this ⊢
          rw [List.all_cons, Bool.and_eq_true] at this
          exact this.2
        · have := z.2.2
          cases hp : prs rest with
          | nil => rfl
          | cons q r =>
            rw [hp, rising_cons2, Bool.and_eq_true] at this
            exact this.2

theorem rising_pairwise : ∀ ps : List (Nat × Nat), rising ps = true → ps.Pairwise fun p q => lx p q = true
  | [], _ => .nil
  | [_], _ => by simp
  | p :: q :: r, h => by
    rw [rising_cons2, Bool.and_eq_true] at h
    have ih := rising_pairwise (q :: r) h.2
    refine List.Pairwise.cons (fun x hx => ?_) ih
    rcases List.mem_cons.mp hx with e | hx
    · rw [e]; exact h.1
    · exact lx_trans h.1 ((List.pairwise_cons.mp ih).1 x hx)

/-- what a graph that was let in is like -/
structure Good (g : Graph) : Prop where
  lo : 1 ≤ g.vertexCount
  hi : g.vertexCount ≤ 5
  ins : ∀ p ∈ g.edges, p.1 < p.2 ∧ p.2 < g.vertexCount
  ord : g.edges.Pairwise fun p q => lx p q = true

/-- the neighbours of a vertex, by the row of pairs -/
def lows (ps : List (Nat × Nat)) (v : Nat) : List Nat := (ps.filter fun p => decide (p.2 = v)).map (·.1)
def highs (ps : List (Nat × Nat)) (v : Nat) : List Nat := (ps.filter fun p => decide (p.1 = v)).map (·.2)
/-- .. by the specification -/
def nb (g : Graph) (v : Nat) : List Nat := (List.range g.vertexCount).filter fun u => isAdjacent g v u
theorem adj_iff {g : Graph} {u v : Nat} : isAdjacent g u v = true ↔ (u, v) ∈ g.edges ∨ (v, u) ∈ g.edges := by
  unfold isAdjacent
  rw [List.any_eq_true]
  constructor
  · rintro ⟨⟨a, b⟩, h, e⟩
    simp only [Bool.or_eq_true, Bool.and_eq_true, beq_iff_eq] at e
    rcases e with ⟨rfl, rfl⟩ | ⟨rfl, rfl⟩
    · exact .inl h
    · exact .inr h
  · rintro (h | h)
    · exact ⟨_, h, by simp⟩
    · exact ⟨_, h, by simp⟩
theorem adj_symm (g : Graph) (u v : Nat) : isAdjacent g u v = isAdjacent g v u := by
  rw [Bool.eq_iff_iff, adj_iff, adj_iff]; exact Or.comm
theorem nb_eq {g : Graph} (G : Good g) (v : Nat) : lows g.edges v ++ highs g.edges v = nb g v := by
  have s1 : (lows g.edges v ++ highs g.edges v).Pairwise (· < ·) := by
    rw [List.pairwise_append]
    refine ⟨?_, ?_, ?_⟩
    · unfold lows
      rw [List.pairwise_map]
      refine List.Pairwise.imp_of_mem ?_ (List.Pairwise.sublist List.filter_sublist G.ord)
      intro p q hp hq h
      rw [lx_iff] at h
      have e1 := (List.mem_filter.mp hp).2
      have e2 := (List.mem_filter.mp hq).2
      simp at e1 e2
      omega
    · unfold highs
      rw [List.pairwise_map]
      refine List.Pairwise.imp_of_mem ?_ (List.Pairwise.sublist List.filter_sublist G.ord)
      intro p q hp hq h
      rw [lx_iff] at h
      have e1 := (List.mem_filter.mp hp).2
      have e2 := (List.mem_filter.mp hq).2
      simp at e1 e2
      omega
    · intro a ha b hb
      unfold lows at ha
      unfold highs at hb
      obtain ⟨p, hp, rfl⟩ := List.mem_map.mp ha
      obtain ⟨q, hq, rfl⟩ := List.mem_map.mp hb
      have e1 := List.mem_filter.mp hp
      have e2 := List.mem_filter.mp hq
      have i1 := G.ins p e1.1
      have i2 := G.ins q e2.1
      have f1 := e1.2
      have f2 := e2.2
      simp at f1 f2
      omega
  have s2 : (nb g v).Pairwise (· < ·) := List.Pairwise.sublist List.filter_sublist List.pairwise_lt_range
  refine List.Perm.eq_of_pairwise (le := (· < ·)) (fun a b _ _ h1 h2 => by omega) s1 s2 ?_
  refine (List.perm_ext_iff_of_nodup (s1.imp (fun h => Nat.ne_of_lt h)) (s2.imp (fun h => Nat.ne_of_lt h))).mpr fun a => ?_
  unfold nb lows highs
  rw [List.mem_filter, adj_iff, List.mem_append, List.mem_range]
  constructor
  · rintro (h | h)
    · obtain ⟨⟨x, y⟩, hp, rfl⟩ := List.mem_map.mp h
      have e := List.mem_filter.mp hp
      have i := G.ins _ e.1
      have f := e.2
      simp at f
      subst f
      exact ⟨by simp at i ⊢; omega, .inr e.1⟩
    · obtain ⟨⟨x, y⟩, hp, rfl⟩ := List.mem_map.mp h
      have e := List.mem_filter.mp hp
      have i := G.ins _ e.1
      have f := e.2
      simp at f
      subst f
      exact ⟨i.2, .inl e.1⟩
  · rintro ⟨h1, h | h⟩
    · exact .inr (List.mem_map.mpr ⟨_, List.mem_filter.mpr ⟨h, by simp⟩, rfl⟩)
    · exact .inl (List.mem_map.mpr ⟨_, List.mem_filter.mpr ⟨h, by simp⟩, rfl⟩)
theorem nb_lt {g : Graph} {v u : Nat} (h : u ∈ nb g v) : u < g.vertexCount := List.mem_range.mp (List.mem_filter.mp h).1
theorem nb_len (g : Graph) (v : Nat) : (nb g v).length ≤ g.vertexCount := by
  have := List.length_filter_le (fun u => isAdjacent g v u) (List.range g.vertexCount)
  rw [List.length_range] at this
  exact this

/-- the moves from one vertex -/
def from1 (g : Graph) (c : List Nat) (u : Nat) : List (Nat × Nat) := if 2 ≤ c.getD u 0 then (nb g u).map fun v => (u, v) else []
theorem possible_eq (g : Graph) (c : List Nat) : possibleMoves g c = (List.range g.vertexCount).flatMap (from1 g c) := by
  unfold possibleMoves
  congr 1
  funext u
  unfold from1 nb canMove pebblesAt
  by_cases h : 2 ≤ c.getD u 0
  · rw [if_pos h]
    simp only [decide_eq_true h, Bool.and_true]
  · rw [if_neg h]
    simp only [decide_eq_false h, Bool.and_false]
    simp
theorem possible_mem {g : Graph} {c : List Nat} {m : Nat × Nat} (h : m ∈ possibleMoves g c) : m.1 < g.vertexCount ∧ m.2 < g.vertexCount ∧ 2 ≤ c.getD m.1 0 ∧ isAdjacent g m.1 m.2 = true := by
  rw [possible_eq, List.mem_flatMap] at h
  obtain ⟨u, hu, h⟩ := h
  unfold from1 at h
  by_cases e : 2 ≤ c.getD u 0
  · rw [if_pos e] at h
    obtain ⟨v, hv, rfl⟩ := List.mem_map.mp h
    exact ⟨List.mem_range.mp hu, nb_lt hv, e, (List.mem_filter.mp hv).2⟩
  · rw [if_neg e] at h
    cases h
theorem adj_ne {g : Graph} (G : Good g) {u v : Nat} (h : isAdjacent g u v = true) : u ≠ v := by
  intro e
  subst e
  rw [adj_iff] at h
  rcases h with h | h <;> exact absurd (G.ins _ h).1 (Nat.lt_irrefl _)
theorem canMove_iff {g : Graph} {c : List Nat} {u v : Nat} (hv : v < g.vertexCount) : canMove g c u v = (decide (v ∈ nb g u) && decide (2 ≤ c.getD u 0)) := by
  unfold canMove pebblesAt
  congr 1
  rw [Bool.eq_iff_iff, decide_eq_true_iff]
  unfold nb
  rw [List.mem_filter, List.mem_range]
  exact ⟨fun h => ⟨hv, h⟩, fun h => h.2⟩
theorem move_len (c : List Nat) (s t : Nat) : (move c s t).length = c.length := by
  unfold move; simp
theorem good_of {n : Nat} {row : List Nat} (h1 : 1 ≤ n) (h2 : n ≤ 5) (h : edgesOk n row = true) : Good ⟨n, prs row⟩ := by
  unfold edgesOk at h
  simp only [Bool.and_eq_true, decide_eq_true_eq] at h
  refine ⟨h1, h2, fun p hp => ?_, rising_pairwise _ h.2.2⟩
  have := List.all_eq_true.mp h.2.1 p hp
  simpa using this
end HP

namespace HP
open Ks577 (Graph isAdjacent possibleMoves canMove pebblesAt move successors levels levelsFrom minMoves maxPebblesAt canReach shortestSequence)

abbrev Pth := List Nat × List (Nat × Nat)
/-- the paths one move longer -/
def ext (g : Graph) (p : Pth) : List Pth := (possibleMoves g p.1).map fun m => (move p.1 m.1 m.2, p.2 ++ [m])
/-- every path of k moves, lower ones first -/
def All (g : Graph) (c : List Nat) : Nat → List Pth
  | 0 => [(c, [])]
  | k + 1 => (All g c k).flatMap (ext g)
def hasK (acc : List Pth) (d : List Nat) : Bool := acc.any fun q => q.1 == d
def insK (acc : List Pth) (p : Pth) : List Pth := if hasK acc p.1 = true then acc else acc ++ [p]
def insA (acc ps : List Pth) : List Pth := ps.foldl insK acc
/-- level k with the first path to each configuration -/
def Pk (g : Graph) (c : List Nat) : Nat → List Pth
  | 0 => [(c, [])]
  | k + 1 => insA [] ((Pk g c k).flatMap (ext g))
theorem hasK_iff {acc : List Pth} {d : List Nat} : hasK acc d = true ↔ d ∈ acc.map (·.1) := by
  unfold hasK
  rw [List.any_eq_true, List.mem_map]
  exact ⟨fun ⟨q, h, e⟩ => ⟨q, h, eq_of_beq e⟩, fun ⟨q, h, e⟩ => ⟨q, h, beq_iff_eq.mpr e⟩⟩
theorem insK_has {acc : List Pth} {p : Pth} (h : hasK acc p.1 = true) : insK acc p = acc := if_pos h
theorem insK_new {acc : List Pth} {p : Pth} (h : ¬ hasK acc p.1 = true) : insK acc p = acc ++ [p] := if_neg h
theorem insA_nil (acc : List Pth) : insA acc [] = acc := rfl
theorem insA_cons (acc : List Pth) (p : Pth) (ps : List Pth) : insA acc (p :: ps) = insA (insK acc p) ps := rfl
theorem insA_append (acc ps qs : List Pth) : insA acc (ps ++ qs) = insA (insA acc ps) qs := List.foldl_append
theorem hasK_insK {acc : List Pth} {p : Pth} {d : List Nat} : hasK (insK acc p) d = true ↔ hasK acc d = true ∨ p.1 = d := by
  by_cases h : hasK acc p.1 = true
  · rw [insK_has h]
    exact ⟨.inl, fun q => q.elim id fun e => e ▸ h⟩
  · rw [insK_new h, hasK_iff, hasK_iff, List.map_append, List.mem_append]
    simp [eq_comm]
theorem hasK_insA {ps : List Pth} : ∀ {acc : List Pth} {d : List Nat}, hasK (insA acc ps) d = true ↔ hasK acc d = true ∨ ∃ p ∈ ps, p.1 = d := by
  induction ps with
  | nil => intro acc d; simp [insA_nil]
  | cons p ps ih =>
    intro acc d
    rw [insA_cons, ih, hasK_insK]
    simp [or_assoc]
/-- nothing new -/
theorem insA_old {ps : List Pth} : ∀ {acc : List Pth}, (∀ p ∈ ps, hasK acc p.1 = true) → insA acc ps = acc := by
  induction ps with
  | nil => intro acc _; rfl
  | cons p ps ih =>
    intro acc h
    rw [insA_cons, insK_has (h p (List.mem_cons_self ..))]
    exact ih fun q hq => h q (List.mem_cons_of_mem _ hq)
/-- all apart from what stands ahead -/
theorem insA_split {ps : List Pth} : ∀ {acc b : List Pth}, (∀ p ∈ ps, ¬ hasK acc p.1 = true) → insA (acc ++ b) ps = acc ++ insA b ps := by
  induction ps with
  | nil => intro acc b _; rfl
  | cons p ps ih =>
    intro acc b h
    rw [insA_cons, insA_cons]
    have hp := h p (List.mem_cons_self ..)
    have e : hasK (acc ++ b) p.1 = hasK b p.1 := by
      unfold hasK at hp ⊢
      rw [List.any_append, (Bool.not_eq_true _).mp hp, Bool.false_or]
    have e2 : insK (acc ++ b) p = acc ++ insK b p := by
      unfold insK
      rw [e]
      by_cases q : hasK b p.1 = true
      · rw [if_pos q, if_pos q]
      · rw [if_neg q, if_neg q, List.append_assoc]
    rw [e2]
    exact ih fun q hq => h q (List.mem_cons_of_mem _ hq)
theorem ext_keys (g : Graph) (p : Pth) : (ext g p).map (·.1) = successors g p.1 := by
  unfold ext successors
  rw [List.map_map]
  rfl
theorem insA_ext (g : Graph) : ∀ (xs acc : List Pth), insA [] ((insA acc xs).flatMap (ext g)) = insA (insA [] (acc.flatMap (ext g))) (xs.flatMap (ext g))
  | [], acc => rfl
  | x :: xs, acc => by
    rw [insA_cons, insA_ext g xs, List.flatMap_cons, insA_append]
    by_cases h : hasK acc x.1 = true
    · rw [insK_has h, insA_old (acc := insA [] (acc.flatMap (ext g))) (ps := ext g x)]
      intro p hp
      rw [hasK_insA]
      refine .inr ?_
      obtain ⟨q, hq, e⟩ := List.mem_map.mp (hasK_iff.mp h)
      have : p.1 ∈ (ext g q).map (·.1) := by
        rw [ext_keys, e, ← ext_keys]
        exact List.mem_map.mpr ⟨p, hp, rfl⟩
      obtain ⟨r, hr, er⟩ := List.mem_map.mp this
      exact ⟨r, List.mem_flatMap.mpr ⟨q, hq, hr⟩, er⟩
    · rw [insK_new h, List.flatMap_append, insA_append]
      congr 2
      simp
theorem Pk_eq (g : Graph) (c : List Nat) : ∀ k, Pk g c k = insA [] (All g c k)
  | 0 => rfl
  | k + 1 => by
    show insA [] ((Pk g c k).flatMap (ext g)) = insA [] ((All g c k).flatMap (ext g))
    rw [Pk_eq g c k, insA_ext]
    rfl
theorem filter_dup (a : List Nat) (l : List (List Nat)) (s : List (List Nat)) : (l.filter fun b => decide (b ∉ s ++ [a])) = (l.filter fun b => decide (b ∉ s)).filter fun b => !b == a := by
  rw [List.filter_filter]
  congr 1
  funext b
  rw [Bool.eq_iff_iff]
  simp [and_comm]
theorem insA_keys : ∀ (ps acc : List Pth), (insA acc ps).map (·.1) = acc.map (·.1) ++ ((ps.map (·.1)).filter fun b => decide (b ∉ acc.map (·.1))).eraseDups
  | [], acc => by simp [insA_nil]
  | p :: ps, acc => by
    rw [insA_cons, insA_keys ps, List.map_cons]
    by_cases h : hasK acc p.1 = true
    · rw [insK_has h, List.filter_cons_of_neg]
      simpa using hasK_iff.mp h
    · rw [insK_new h, List.map_append, List.filter_cons_of_pos, List.eraseDups_cons]
      · rw [List.append_assoc]
        congr 1
        show p.1 :: _ = p.1 :: _
        congr 1
        exact congrArg List.eraseDups (filter_dup p.1 _ _)
      · simpa [hasK_iff] using h
theorem insA_keys0 (ps : List Pth) : (insA [] ps).map (·.1) = (ps.map (·.1)).eraseDups := by
  rw [insA_keys, List.filter_eq_self.mpr (by simp)]
  rfl
theorem insA_find {f : List Nat → Bool} : ∀ (ps acc : List Pth), (insA acc ps).find? (fun p => f p.1) = (acc.find? fun p => f p.1).or (ps.find? fun p => f p.1)
  | [], acc => by simp [insA_nil]
  | p :: ps, acc => by
    rw [insA_cons, insA_find ps, List.find?_cons]
    by_cases h : hasK acc p.1 = true
    · rw [insK_has h]
      cases e : f p.1 with
      | false => rfl
      | true =>
        obtain ⟨q, hq, eq⟩ := List.mem_map.mp (hasK_iff.mp h)
        have : (acc.find? fun p => f p.1).isSome = true := by
          rw [List.find?_isSome]
          exact ⟨q, hq, by rw [eq]; exact e⟩
        obtain ⟨z, ez⟩ := Option.isSome_iff_exists.mp this
        rw [ez]
        rfl
    · rw [insK_new h, List.find?_append, List.find?_cons, Option.or_assoc]
      cases e : f p.1 <;> rfl
theorem insA_mem : ∀ {ps acc : List Pth} {p : Pth}, p ∈ insA acc ps → p ∈ acc ∨ p ∈ ps
  | [], acc, p, h => .inl h
  | q :: ps, acc, p, h => by
    rw [insA_cons] at h
    rcases insA_mem h with h | h
    · by_cases e : hasK acc q.1 = true
      · rw [insK_has e] at h; exact .inl h
      · rw [insK_new e] at h
        rcases List.mem_append.mp h with h | h
        · exact .inl h
        · rw [List.mem_singleton.mp h]; exact .inr (List.mem_cons_self ..)
    · exact .inr (List.mem_cons_of_mem _ h)
theorem insK_nodup {acc : List Pth} {p : Pth} (h : (acc.map (·.1)).Nodup) : ((insK acc p).map (·.1)).Nodup := by
  by_cases e : hasK acc p.1 = true
  · rw [insK_has e]; exact h
  · rw [insK_new e, List.map_append]
    refine List.nodup_append.mpr ⟨h, by simp, ?_⟩
    intro a ha b hb
    rw [hasK_iff] at e
    simp at hb
    intro z
    exact e (by rw [← hb, ← z]; exact ha)
theorem insA_nodup : ∀ {ps acc : List Pth}, (acc.map (·.1)).Nodup → ((insA acc ps).map (·.1)).Nodup
  | [], _, h => h
  | p :: ps, acc, h => insA_nodup (ps := ps) (insK_nodup h)

/-! ### levels -/
def nxt (g : Graph) (l : List (List Nat)) : List (List Nat) := (l.flatMap (successors g)).eraseDups
def itr (g : Graph) (l : List (List Nat)) : Nat → List (List Nat)
  | 0 => l
  | k + 1 => itr g (nxt g l) k
theorem itr_succ (g : Graph) : ∀ (k : Nat) (l : List (List Nat)), itr g l (k + 1) = nxt g (itr g l k)
  | 0, _ => rfl
  | k + 1, l => itr_succ g k (nxt g l)
theorem nxt_nil (g : Graph) : nxt g [] = [] := rfl
theorem itr_nil (g : Graph) : ∀ k, itr g [] k = []
  | 0 => rfl
  | k + 1 => itr_nil g k
theorem levelsFrom_eq (g : Graph) : ∀ (f : Nat) (l : List (List Nat)), itr g l f = [] → ∃ D, levelsFrom g l f = (List.range D).map (itr g l) ∧ (∀ k, k < D → itr g l k ≠ []) ∧ ∀ k, D ≤ k → itr g l k = []
  | 0, l, h => by
    have h' : l = [] := h
    subst h'
    exact ⟨0, rfl, fun k hk => absurd hk (Nat.not_lt_zero k), fun k _ => itr_nil g k⟩
  | f + 1, l, h => by
    by_cases e : l.isEmpty = true
    · have h' : l = [] := List.isEmpty_iff.mp e
      subst h'
      exact ⟨0, rfl, fun k hk => absurd hk (Nat.not_lt_zero k), fun k _ => itr_nil g k⟩
    · obtain ⟨D, h1, h2, h3⟩ := levelsFrom_eq g f (nxt g l) h
      refine ⟨D + 1, ?_, fun k hk => ?_, fun k hk => ?_⟩
      · show (if l.isEmpty = true then [] else l :: levelsFrom g (nxt g l) f) = _
        rw [if_neg e, h1, List.range_succ_eq_map, List.map_cons, List.map_map]
        rfl
      · cases k with
        | zero => intro z; exact e (List.isEmpty_iff.mpr z)
        | succ k => exact h2 k (by omega)
      · cases k with
        | zero => omega
        | succ k => exact h3 k (by omega)
theorem Pk_keys (g : Graph) (c : List Nat) : ∀ k, (Pk g c k).map (·.1) = itr g [c] k
  | 0 => rfl
  | k + 1 => by
    rw [itr_succ, ← Pk_keys g c k]
    show (insA [] ((Pk g c k).flatMap (ext g))).map (·.1) = nxt g ((Pk g c k).map (·.1))
    rw [insA_keys0]
    unfold nxt
    congr 1
    rw [List.map_flatMap, List.flatMap_map]
    congr 1
    funext p
    exact ext_keys g p

/-! ### sums -/
theorem sum_set : ∀ (c : List Nat) (s x : Nat), s < c.length → (c.set s x).sum + c.getD s 0 = c.sum + x
  | [], s, x, h => by simp at h
  | a :: c, 0, x, _ => by simp; omega
  | a :: c, s + 1, x, h => by
    have ih := sum_set c s x (by simpa using h)
    simp at ih ⊢
    omega
theorem getD_set_ne {c : List Nat} {s t x : Nat} (h : s ≠ t) : (c.set s x).getD t 0 = c.getD t 0 := by
  simp [List.getD_eq_getElem?_getD, List.getElem?_set_ne h]
theorem move_sum {g : Graph} (G : Good g) {c : List Nat} (hc : c.length = g.vertexCount) {m : Nat × Nat} (h : m ∈ possibleMoves g c) : (move c m.1 m.2).sum + 1 = c.sum := by
  obtain ⟨h1, h2, h3, h4⟩ := possible_mem h
  have hne := adj_ne G h4
  unfold move pebblesAt
  dsimp only
  have e1 := sum_set c m.1 (c.getD m.1 0 - 2) (by omega)
  have e2 := sum_set (c.set m.1 (c.getD m.1 0 - 2)) m.2 ((c.set m.1 (c.getD m.1 0 - 2)).getD m.2 0 + 1) (by rw [List.length_set]; omega)
  omega
theorem All_props {g : Graph} (G : Good g) {c : List Nat} (hc : c.length = g.vertexCount) : ∀ k, ∀ p ∈ All g c k, p.1.length = g.vertexCount ∧ p.1.sum + k = c.sum ∧ p.2.length = k
  | 0, p, h => by
    have e : p = (c, []) := List.mem_singleton.mp h
    subst e
    exact ⟨hc, rfl, rfl⟩
  | k + 1, p, h => by
    obtain ⟨q, hq, hp⟩ := List.mem_flatMap.mp h
    obtain ⟨i1, i2, i3⟩ := All_props G hc k q hq
    obtain ⟨m, hm, rfl⟩ := List.mem_map.mp hp
    have e := move_sum G i1 hm
    refine ⟨?_, ?_, ?_⟩
    · show (move q.1 m.1 m.2).length = _
      rw [move_len, i1]
    · show (move q.1 m.1 m.2).sum + (k + 1) = _
      omega
    · show (q.2 ++ [m]).length = _
      rw [List.length_append, i3]; rfl
theorem Pk_props {g : Graph} (G : Good g) {c : List Nat} (hc : c.length = g.vertexCount) {k : Nat} {p : Pth} (h : p ∈ Pk g c k) : p.1.length = g.vertexCount ∧ p.1.sum + k = c.sum ∧ p.2.length = k := by
  rw [Pk_eq] at h
  rcases insA_mem h with h | h
  · cases h
  · exact All_props G hc k p h
/-- the levels of a start -/
structure Depth (g : Graph) (c : List Nat) (D : Nat) : Prop where
  lev : levels g c = (List.range D).map fun k => (Pk g c k).map (·.1)
  full : ∀ k, k < D → Pk g c k ≠ []
  out : ∀ k, D ≤ k → Pk g c k = []
theorem depth_ex {g : Graph} (G : Good g) {c : List Nat} (hc : c.length = g.vertexCount) : ∃ D, Depth g c D := by
  have h0 : itr g [c] (c.sum + 1) = [] := by
    rw [← Pk_keys]
    cases e : Pk g c (c.sum + 1) with
    | nil => rfl
    | cons p r =>
      have := (Pk_props G hc (k := c.sum + 1) (p := p) (by rw [e]; exact List.mem_cons_self ..)).2.1
      omega
  obtain ⟨D, h1, h2, h3⟩ := levelsFrom_eq g (c.sum + 1) [c] h0
  refine ⟨D, ⟨?_, fun k hk z => ?_, fun k hk => ?_⟩⟩
  · show levelsFrom g [c] (c.sum + 1) = _
    rw [h1]
    congr 1
    funext k
    exact (Pk_keys g c k).symm
  · apply h2 k hk
    rw [← Pk_keys, z]
    rfl
  · have := h3 k hk
    rw [← Pk_keys, List.map_eq_nil_iff] at this
    exact this
theorem Depth.pos {g : Graph} {c : List Nat} {D : Nat} (h : Depth g c D) : 0 < D := by
  rcases Nat.eq_zero_or_pos D with e | e
  · have := h.out 0 (by omega)
    cases this
  · exact e

/-! ### the whole list -/
/-- the levels below k, one behind another -/
def FQ (g : Graph) (c : List Nat) (k : Nat) : List Pth := (List.range k).flatMap (Pk g c)
theorem FQ_succ (g : Graph) (c : List Nat) (k : Nat) : FQ g c (k + 1) = FQ g c k ++ Pk g c k := by
  unfold FQ
  rw [List.range_succ, List.flatMap_append]
  simp
theorem FQ_mem {g : Graph} {c : List Nat} {k : Nat} {p : Pth} : p ∈ FQ g c k ↔ ∃ j, j < k ∧ p ∈ Pk g c j := by
  unfold FQ
  rw [List.mem_flatMap]
  simp
theorem insA_next {g : Graph} (G : Good g) {c : List Nat} (hc : c.length = g.vertexCount) (k : Nat) : insA (FQ g c (k + 1)) ((Pk g c k).flatMap (ext g)) = FQ g c (k + 2) := by
  have h : ∀ p ∈ (Pk g c k).flatMap (ext g), ¬ hasK (FQ g c (k + 1)) p.1 = true := fun p hp z => by
    obtain ⟨q, hq, hp⟩ := List.mem_flatMap.mp hp
    obtain ⟨m, hm, rfl⟩ := List.mem_map.mp hp
    obtain ⟨i1, i2, _⟩ := Pk_props G hc hq
    have e := move_sum G i1 hm
    obtain ⟨r, hr, er⟩ := List.mem_map.mp (hasK_iff.mp z)
    obtain ⟨j, hj, hr⟩ := FQ_mem.mp hr
    have e2 := (Pk_props G hc hr).2.1
    have er' : r.1 = move q.1 m.1 m.2 := er
    rw [er'] at e2
    omega
  have := insA_split (acc := FQ g c (k + 1)) (b := []) h
  rw [List.append_nil] at this
  rw [this, FQ_succ g c (k + 1)]
  rfl

/-! ### the walk through the list that grows -/
def turnQ (g : Graph) (Q : List Pth) (p : Nat) : List Pth := match Q[p]? with
  | none => Q
  | some q => insA Q (ext g q)
def runQ (g : Graph) : Nat → List Pth → Nat → Option (List Pth)
  | 0, Q, p => if p < Q.length then none else some Q
  | f + 1, Q, p => if p < Q.length then runQ g f (turnQ g Q p) (p + 1) else some Q
theorem insA_prefix : ∀ (ps acc : List Pth), ∃ r, insA acc ps = acc ++ r
  | [], acc => ⟨[], by simp [insA_nil]⟩
  | p :: ps, acc => by
    obtain ⟨r, e⟩ := insA_prefix ps (insK acc p)
    rw [insA_cons, e]
    by_cases h : hasK acc p.1 = true
    · rw [insK_has h]; exact ⟨r, rfl⟩
    · rw [insK_new h]; exact ⟨[p] ++ r, by rw [List.append_assoc]⟩
theorem runQ_step (g : Graph) {f : Nat} {Q : List Pth} {p : Nat} {q : Pth} (h : Q[p]? = some q) : runQ g (f + 1) Q p = runQ g f (insA Q (ext g q)) (p + 1) := by
  have hl : p < Q.length := by
    rw [List.getElem?_eq_some_iff] at h
    exact h.1
  show (if p < Q.length then runQ g f (turnQ g Q p) (p + 1) else some Q) = _
  rw [if_pos hl]
  unfold turnQ
  rw [h]
theorem runQ_level {g : Graph} {c : List Nat} {k f : Nat} : ∀ (rest done : List Pth), Pk g c k = done ++ rest →
    runQ g (f + rest.length) (insA (FQ g c (k + 1)) (done.flatMap (ext g))) ((FQ g c k).length + done.length) = runQ g f (insA (FQ g c (k + 1)) ((Pk g c k).flatMap (ext g))) (FQ g c (k + 1)).length
  | [], done, e => by
    rw [List.append_nil] at e
    rw [← e, FQ_succ, List.length_append]
    rfl
  | q :: rest, done, e => by
    have ih := runQ_level (g := g) (c := c) (k := k) (f := f) rest (done ++ [q]) (by rw [e, List.append_assoc]; rfl)
    rw [← ih]
    have hq : (insA (FQ g c (k + 1)) (done.flatMap (ext g)))[(FQ g c k).length + done.length]? = some q := by
      obtain ⟨r, er⟩ := insA_prefix (done.flatMap (ext g)) (FQ g c (k + 1))
      rw [er, FQ_succ, e, List.append_assoc, List.append_assoc]
      rw [List.getElem?_append_right (Nat.le_add_right ..), Nat.add_sub_cancel_left, List.getElem?_append_right (Nat.le_refl _), Nat.sub_self]
      rfl
    rw [List.length_cons, ← Nat.add_assoc, runQ_step g hq, List.flatMap_append, insA_append, List.length_append, Nat.add_assoc]
    congr 2
    simp
theorem runQ_all {g : Graph} (G : Good g) {c : List Nat} (hc : c.length = g.vertexCount) {D : Nat} (h : Depth g c D) : ∀ (j k : Nat), k + j = D → ∃ f, runQ g f (FQ g c (k + 1)) (FQ g c k).length = some (FQ g c D)
  | 0, k, e => by
    have e' : k = D := by omega
    subst e'
    refine ⟨0, ?_⟩
    have : FQ g c (k + 1) = FQ g c k := by
      rw [FQ_succ, h.out k (Nat.le_refl _), List.append_nil]
    rw [this]
    show (if _ then _ else _) = _
    rw [if_neg (Nat.lt_irrefl _)]
  | j + 1, k, e => by
    obtain ⟨f, hf⟩ := runQ_all G hc h j (k + 1) (by omega)
    refine ⟨f + (Pk g c k).length, ?_⟩
    have := runQ_level (g := g) (c := c) (k := k) (f := f) (Pk g c k) [] rfl
    rw [insA_next G hc] at this
    rw [← hf, ← this]
    rfl
theorem runQ_top {g : Graph} (G : Good g) {c : List Nat} (hc : c.length = g.vertexCount) {D : Nat} (h : Depth g c D) : ∃ f, runQ g f [(c, [])] 0 = some (FQ g c D) := runQ_all G hc h D 0 (by omega)
end HP

namespace HP
open Ks577 (Graph isAdjacent possibleMoves canMove pebblesAt move successors levels levelsFrom minMoves maxPebblesAt canReach shortestSequence)

/-! ### the rows: configuration, place of the one before, move -/
abbrev Row := List Nat × Nat × List Nat
def hasR (rows : List Row) (d : List Nat) : Bool := rows.any fun r => r.1 == d
def insR (c : List Nat) (p : Nat) (rows : List Row) (m : Nat × Nat) : List Row := if hasR rows (move c m.1 m.2) = true then rows else rows ++ [(move c m.1 m.2, p, [m.1, m.2])]
def turnR (g : Graph) (rows : List Row) (p : Nat) : List Row := match rows[p]? with
  | none => rows
  | some r => (possibleMoves g r.1).foldl (insR r.1 p) rows
def runR (g : Graph) : Nat → List Row → Nat → Option (List Row)
  | 0, R, p => if p < R.length then none else some R
  | f + 1, R, p => if p < R.length then runR g f (turnR g R p) (p + 1) else some R
structure Link (rows : List Row) (Q : List Pth) : Prop where
  len : rows.length = Q.length
  key : ∀ (i : Nat) (r : Row) (q : Pth), rows[i]? = some r → Q[i]? = some q → r.1 = q.1
  back : ∀ (i : Nat) (r : Row) (q : Pth), rows[i]? = some r → Q[i]? = some q → 0 < i → r.2.1 < i ∧ ∃ (q0 : Pth) (m : Nat × Nat), Q[r.2.1]? = some q0 ∧ r.2.2 = [m.1, m.2] ∧ q.2 = q0.2 ++ [m]
  zero : ∀ q : Pth, Q[0]? = some q → q.2 = []
theorem Link.keys {rows : List Row} {Q : List Pth} (L : Link rows Q) : rows.map (·.1) = Q.map (·.1) := by
  apply List.ext_getElem?
  intro i
  rw [List.getElem?_map, List.getElem?_map]
  cases h : rows[i]? with
  | none =>
    have : Q[i]? = none := by
      rw [List.getElem?_eq_none_iff] at h ⊢
      rw [← L.len]; exact h
    rw [this]; rfl
  | some r =>
    have hi : i < Q.length := by
      rw [← L.len]
      exact (List.getElem?_eq_some_iff.mp h).1
    have hq : Q[i]? = some Q[i] := List.getElem?_eq_getElem hi
    rw [hq]
    exact congrArg some (L.key i r _ h hq)
theorem Link.has {rows : List Row} {Q : List Pth} (L : Link rows Q) (d : List Nat) : hasR rows d = hasK Q d := by
  have e1 : hasR rows d = (rows.map (·.1)).any (fun x => x == d) := by
    unfold hasR; rw [List.any_map]; rfl
  have e2 : hasK Q d = (Q.map (·.1)).any (fun x => x == d) := by
    unfold hasK; rw [List.any_map]; rfl
  rw [e1, e2, L.keys]
theorem Link.ins {rows : List Row} {Q : List Pth} (L : Link rows Q) {p : Nat} {q0 : Pth} (h0 : Q[p]? = some q0) (m : Nat × Nat) :
    Link (insR q0.1 p rows m) (insK Q (move q0.1 m.1 m.2, q0.2 ++ [m])) := by
  unfold insR insK
  rw [L.has]
  by_cases h : hasK Q (move q0.1 m.1 m.2) = true
  · rw [if_pos h, if_pos h]; exact L
  · rw [if_neg h, if_neg h]
    have hp : p < Q.length := (List.getElem?_eq_some_iff.mp h0).1
    have hl := L.len
    refine ⟨by rw [List.length_append, List.length_append, hl]; rfl, fun i r q h1 h2 => ?_, fun i r q h1 h2 hi => ?_, fun q h1 => ?_⟩
    · by_cases hi : i < rows.length
      · rw [List.getElem?_append_left hi] at h1
        rw [List.getElem?_append_left (by omega)] at h2
        exact L.key i r q h1 h2
      · rw [List.getElem?_append_right (by omega)] at h1 h2
        rw [hl] at h1
        cases hd : i - Q.length with
        | zero =>
          rw [hd] at h1 h2
          cases h1
          cases h2
          rfl
        | succ j =>
          rw [hd] at h1
          cases h1
    · by_cases hi' : i < rows.length
      · rw [List.getElem?_append_left hi'] at h1
        rw [List.getElem?_append_left (by omega)] at h2
        obtain ⟨b1, q1, m1, b2, b3, b4⟩ := L.back i r q h1 h2 hi
        exact ⟨b1, q1, m1, by rw [List.getElem?_append_left (by omega)]; exact b2, b3, b4⟩
      · rw [List.getElem?_append_right (by omega)] at h1 h2
        rw [hl] at h1
        cases hd : i - Q.length with
        | zero =>
          rw [hd] at h1 h2
          cases h1
          cases h2
          exact ⟨by show p < i; omega, q0, m, by rw [List.getElem?_append_left hp]; exact h0, rfl, rfl⟩
        | succ j =>
          rw [hd] at h1
          cases h1
    · rw [List.getElem?_append_left (by omega)] at h1
      exact L.zero q h1
theorem Link.insAll {p : Nat} {q0 : Pth} : ∀ (ms : List (Nat × Nat)) {rows : List Row} {Q : List Pth} (L : Link rows Q) (h0 : Q[p]? = some q0),
    Link (ms.foldl (insR q0.1 p) rows) (insA Q (ms.map fun m => (move q0.1 m.1 m.2, q0.2 ++ [m])))
  | [], _, _, L, _ => L
  | m :: ms, rows, Q, L, h0 => by
    rw [List.foldl_cons, List.map_cons, insA_cons]
    refine Link.insAll ms (L.ins h0 m) ?_
    unfold insK
    split
    · exact h0
    · rw [List.getElem?_append_left (List.getElem?_eq_some_iff.mp h0).1]; exact h0
theorem Link.turn {g : Graph} {rows : List Row} {Q : List Pth} (L : Link rows Q) {p : Nat} (hp : p < rows.length) : Link (turnR g rows p) (turnQ g Q p) := by
  have hq : p < Q.length := by rw [← L.len]; exact hp
  have e1 : rows[p]? = some rows[p] := List.getElem?_eq_getElem hp
  have e2 : Q[p]? = some Q[p] := List.getElem?_eq_getElem hq
  unfold turnR turnQ
  rw [e1, e2]
  dsimp only
  have k := L.key p _ _ e1 e2
  rw [k]
  exact Link.insAll _ L e2
theorem Link.run {g : Graph} : ∀ (f : Nat) {rows : List Row} {Q : List Pth} {p : Nat} {q : List Pth}, Link rows Q → runQ g f Q p = some q → ∃ r, runR g f rows p = some r ∧ Link r q
  | 0, rows, Q, p, q, L, h => by
    unfold runQ at h
    unfold runR
    rw [L.len]
    split at h
    · cases h
    · rename_i hn
      rw [if_neg hn]
      cases h
      exact ⟨rows, rfl, L⟩
  | f + 1, rows, Q, p, q, L, h => by
    unfold runQ at h
    unfold runR
    rw [L.len]
    split at h
    · rename_i hp
      rw [if_pos hp]
      exact Link.run f (L.turn (by rw [L.len]; exact hp)) h
    · rename_i hn
      rw [if_neg hn]
      cases h
      exact ⟨rows, rfl, L⟩
theorem link_start (c : List Nat) : Link [(c, 0, [])] [(c, [])] := by
  refine ⟨rfl, fun i r q h1 h2 => ?_, fun i r q h1 h2 hi => ?_, fun q h => ?_⟩
  · cases i with
    | zero => cases h1; cases h2; rfl
    | succ i => cases h1
  · cases i with
    | zero => omega
    | succ i => cases h1
  · cases h; rfl

/-! ### the list only grows, and stays small -/
theorem insR_len (c : List Nat) (p : Nat) (rows : List Row) (m : Nat × Nat) : rows.length ≤ (insR c p rows m).length := by
  unfold insR
  split
  · exact Nat.le_refl _
  · rw [List.length_append]; exact Nat.le_add_right ..
theorem foldR_len (c : List Nat) (p : Nat) : ∀ (ms : List (Nat × Nat)) (rows : List Row), rows.length ≤ (ms.foldl (insR c p) rows).length
  | [], rows => Nat.le_refl _
  | m :: ms, rows => Nat.le_trans (insR_len c p rows m) (foldR_len c p ms _)
theorem turnR_len (g : Graph) (rows : List Row) (p : Nat) : rows.length ≤ (turnR g rows p).length := by
  unfold turnR
  split
  · exact Nat.le_refl _
  · exact foldR_len _ _ _ _
theorem runR_len {g : Graph} : ∀ (f : Nat) {rows r : List Row} {p : Nat}, runR g f rows p = some r → rows.length ≤ r.length
  | 0, rows, r, p, h => by
    unfold runR at h
    split at h
    · cases h
    · cases h; exact Nat.le_refl _
  | f + 1, rows, r, p, h => by
    unfold runR at h
    split at h
    · exact Nat.le_trans (turnR_len g rows p) (runR_len f h)
    · cases h; exact Nat.le_refl _
def code : List Nat → Nat
  | [] => 0
  | a :: l => a + 13 * code l
theorem code_lt : ∀ (l : List Nat) (n : Nat), l.length ≤ n → (∀ a ∈ l, a < 13) → code l < 13 ^ n
  | [], n, _, _ => Nat.pow_pos (by decide)
  | a :: l, 0, h, _ => by simp at h
  | a :: l, n + 1, h, q => by
    have ih := code_lt l n (by simpa using h) fun b hb => q b (List.mem_cons_of_mem _ hb)
    have ha := q a (List.mem_cons_self ..)
    show a + 13 * code l < 13 ^ (n + 1)
    rw [Nat.pow_succ]
    omega
theorem code_inj : ∀ (l m : List Nat), l.length = m.length → (∀ a ∈ l, a < 13) → (∀ a ∈ m, a < 13) → code l = code m → l = m
  | [], [], _, _, _, _ => rfl
  | [], _ :: _, h, _, _, _ => by simp at h
  | _ :: _, [], h, _, _, _ => by simp at h
  | a :: l, b :: m, h, q1, q2, e => by
    have ha := q1 a (List.mem_cons_self ..)
    have hb := q2 b (List.mem_cons_self ..)
    have e' : a + 13 * code l = b + 13 * code m := e
    have e1 : a = b := by omega
    have e2 : code l = code m := by omega
    rw [e1, code_inj l m (by simpa using h) (fun x hx => q1 x (List.mem_cons_of_mem _ hx)) (fun x hx => q2 x (List.mem_cons_of_mem _ hx)) e2]
theorem le_sum {l : List Nat} {a : Nat} (h : a ∈ l) : a ≤ l.sum := by
  induction l with
  | nil => cases h
  | cons b l ih =>
    rw [List.sum_cons]
    rcases List.mem_cons.mp h with e | h
    · omega
    · have := ih h; omega
theorem few {Q : List Pth} {n : Nat} (hn : n ≤ 5) (nd : (Q.map (·.1)).Nodup) (h : ∀ p ∈ Q, p.1.length = n ∧ p.1.sum ≤ 12) : Q.length ≤ 371293 := by
  have small : ∀ p ∈ Q, ∀ a ∈ p.1, a < 13 := fun p hp a ha => by
    have := le_sum ha
    have := (h p hp).2
    omega
  have nd2 : ((Q.map (·.1)).map code).Nodup := by
    unfold List.Nodup at nd ⊢
    rw [List.pairwise_map]
    refine List.Pairwise.imp_of_mem ?_ nd
    intro a b ha hb hne e
    obtain ⟨p, hp, rfl⟩ := List.mem_map.mp ha
    obtain ⟨q, hq, rfl⟩ := List.mem_map.mp hb
    exact hne (code_inj _ _ ((h p hp).1.trans (h q hq).1.symm) (small p hp) (small q hq) e)
  have sub : ((Q.map (·.1)).map code) ⊆ List.range (13 ^ 5) := fun x hx => by
    obtain ⟨d, hd, rfl⟩ := List.mem_map.mp hx
    obtain ⟨p, hp, rfl⟩ := List.mem_map.mp hd
    exact List.mem_range.mpr (code_lt _ 5 (by rw [(h p hp).1]; exact hn) (small p hp))
  have := nd2.length_le_of_subset sub
  rw [List.length_map, List.length_map, List.length_range] at this
  exact this
theorem runQ_nodup {g : Graph} : ∀ (f : Nat) {Q r : List Pth} {p : Nat}, (Q.map (·.1)).Nodup → runQ g f Q p = some r → (r.map (·.1)).Nodup
  | 0, Q, r, p, nd, h => by
    unfold runQ at h
    split at h
    · cases h
    · cases h; exact nd
  | f + 1, Q, r, p, nd, h => by
    unfold runQ at h
    split at h
    · refine runQ_nodup f ?_ h
      unfold turnQ
      split
      · exact nd
      · exact insA_nodup nd
    · cases h; exact nd

/-- what the program's list of rows is worth -/
structure Rows (g : Graph) (c : List Nat) (rows : List Row) (D : Nat) : Prop where
  dep : Depth g c D
  link : Link rows (FQ g c D)
  few : rows.length ≤ 371293
theorem rows_ex {g : Graph} (G : Good g) {c : List Nat} (hc : c.length = g.vertexCount) (hs : c.sum ≤ 12) : ∃ f rows D, runR g f [(c, 0, [])] 0 = some rows ∧ Rows g c rows D := by
  obtain ⟨D, hD⟩ := depth_ex G hc
  obtain ⟨f, hf⟩ := runQ_top G hc hD
  obtain ⟨rows, hr, L⟩ := Link.run f (link_start c) hf
  refine ⟨f, rows, D, hr, hD, L, ?_⟩
  rw [L.len]
  refine few G.hi (runQ_nodup f (by simp) hf) fun p hp => ?_
  obtain ⟨j, hj, hp⟩ := FQ_mem.mp hp
  have := Pk_props G hc hp
  exact ⟨this.1, by omega⟩

/-! ### the goal -/
def goalAt (t cnt : Nat) (d : List Nat) : Bool := decide (cnt ≤ pebblesAt d t)
def goalIdx (rows : List Row) (t cnt : Nat) : Option Nat := rows.findIdx? fun r => goalAt t cnt r.1
def hit (g : Graph) (c : List Nat) (t cnt k : Nat) : Bool := (All g c k).any fun p => goalAt t cnt p.1
theorem hit_iff {g : Graph} {c : List Nat} {t cnt k : Nat} : hit g c t cnt k = true ↔ ((Pk g c k).any fun p => goalAt t cnt p.1) = true := by
  unfold hit
  have e := insA_find (f := goalAt t cnt) (All g c k) []
  rw [← Pk_eq] at e
  have e' : ((Pk g c k).find? fun p => goalAt t cnt p.1) = (All g c k).find? fun p => goalAt t cnt p.1 := by
    rw [e]; rfl
  rw [List.any_eq_true, List.any_eq_true, ← List.find?_isSome, ← List.find?_isSome, e']
theorem all_any (l : List (List Nat)) (f : List Nat → Bool) : l.any f = l.any f := rfl
theorem minMoves_iff {g : Graph} {c : List Nat} {D : Nat} (h : Depth g c D) {t cnt k : Nat} : minMoves g c t cnt = some k ↔ hit g c t cnt k = true ∧ ∀ j, j < k → ¬ hit g c t cnt j = true := by
  unfold minMoves
  rw [h.lev, List.findIdx?_map]
  have lvl : ∀ j, ((fun level : List (List Nat) => level.any fun d => decide (cnt ≤ pebblesAt d t)) ∘ fun k => (Pk g c k).map (·.1)) j = ((Pk g c j).any fun p => goalAt t cnt p.1) := fun j => by
    show ((Pk g c j).map (·.1)).any _ = _
    rw [List.any_map]; rfl
  rw [List.findIdx?_eq_some_iff_getElem]
  constructor
  · rintro ⟨hk, h1, h2⟩
    rw [List.getElem_range, lvl] at h1
    refine ⟨hit_iff.mpr h1, fun j hj z => ?_⟩
    have := h2 j hj
    rw [List.getElem_range, lvl] at this
    exact this (hit_iff.mp z)
  · rintro ⟨h1, h2⟩
    have hk : k < D := by
      rcases Nat.lt_or_ge k D with e | e
      · exact e
      · have := hit_iff.mp h1
        rw [h.out k e] at this
        cases this
    refine ⟨by rw [List.length_range]; exact hk, ?_, fun j hj => ?_⟩
    · rw [List.getElem_range, lvl]; exact hit_iff.mp h1
    · rw [List.getElem_range, lvl]
      exact fun z => h2 j hj (hit_iff.mpr z)
theorem minMoves_none {g : Graph} {c : List Nat} {D : Nat} (h : Depth g c D) {t cnt : Nat} (e : minMoves g c t cnt = none) : ∀ k, ¬ hit g c t cnt k = true := by
  intro k hk
  unfold minMoves at e
  rw [h.lev, List.findIdx?_eq_none_iff] at e
  have hkD : k < D := by
    rcases Nat.lt_or_ge k D with e | e
    · exact e
    · have := hit_iff.mp hk
      rw [h.out k e] at this
      cases this
  have := e _ (List.mem_map.mpr ⟨k, List.mem_range.mpr hkD, rfl⟩)
  rw [List.any_map] at this
  have hk' := hit_iff.mp hk
  have e2 : ((Pk g c k).any fun p => goalAt t cnt p.1) = false := this
  rw [e2] at hk'
  cases hk'
theorem find_FQ {g : Graph} {c : List Nat} {t cnt : Nat} : ∀ (k : Nat), (∀ j, j < k → ¬ hit g c t cnt j = true) → ((FQ g c k).find? fun p => goalAt t cnt p.1) = none
  | 0, _ => rfl
  | k + 1, h => by
    rw [FQ_succ, List.find?_append, find_FQ k fun j hj => h j (by omega), Option.none_or]
    have := h k (by omega)
    rw [hit_iff] at this
    rw [List.find?_eq_none]
    intro x hx z
    exact this (List.any_eq_true.mpr ⟨x, hx, z⟩)
theorem FQ_split (g : Graph) (c : List Nat) (k : Nat) : ∀ d, ∃ r, FQ g c (k + 1 + d) = FQ g c k ++ (Pk g c k ++ r)
  | 0 => ⟨[], by rw [Nat.add_zero, FQ_succ, List.append_nil]⟩
  | d + 1 => by
    obtain ⟨r, e⟩ := FQ_split g c k d
    refine ⟨r ++ Pk g c (k + 1 + d), ?_⟩
    rw [← Nat.add_assoc, FQ_succ, e]
    simp
/-- the first row that reaches the goal -/
theorem goal_some {g : Graph} (G : Good g) {c : List Nat} (hc : c.length = g.vertexCount) {rows : List Row} {D : Nat} (R : Rows g c rows D) {t cnt k : Nat} (h : minMoves g c t cnt = some k) :
    ∃ p r q, goalIdx rows t cnt = some p ∧ rows[p]? = some r ∧ (FQ g c D)[p]? = some q ∧ r.1 = q.1 ∧ ((All g c k).find? fun p => goalAt t cnt p.1) = some q ∧ r.1.sum + k = c.sum ∧ q.2.length = k := by
  obtain ⟨h1, h2⟩ := (minMoves_iff R.dep).mp h
  have hk : k < D := by
    rcases Nat.lt_or_ge k D with e | e
    · exact e
    · have := hit_iff.mp h1
      rw [R.dep.out k e] at this
      cases this
  obtain ⟨r0, er⟩ := FQ_split g c k (D - (k + 1))
  rw [show k + 1 + (D - (k + 1)) = D by omega] at er
  have hh : ((Pk g c k).find? fun p => goalAt t cnt p.1).isSome = true := List.find?_isSome.mpr (List.any_eq_true.mp (hit_iff.mp h1))
  obtain ⟨q, hq⟩ := Option.isSome_iff_exists.mp hh
  have hqm : q ∈ Pk g c k := List.mem_of_find?_eq_some hq
  have hQ : ((FQ g c D).find? fun p => goalAt t cnt p.1) = some q := by
    rw [er, List.find?_append, find_FQ k h2, Option.none_or, List.find?_append, hq]; rfl
  have hA : ((All g c k).find? fun p => goalAt t cnt p.1) = some q := by
    have e := insA_find (f := goalAt t cnt) (All g c k) []
    rw [← Pk_eq, hq] at e
    exact e.symm
  -- the place
  have hi : (goalIdx rows t cnt) = (FQ g c D).findIdx? fun p => goalAt t cnt p.1 := by
    unfold goalIdx
    have e1 : (rows.findIdx? fun r => goalAt t cnt r.1) = (rows.map (·.1)).findIdx? (goalAt t cnt) := by rw [List.findIdx?_map]; rfl
    have e2 : ((FQ g c D).findIdx? fun r => goalAt t cnt r.1) = ((FQ g c D).map (·.1)).findIdx? (goalAt t cnt) := by rw [List.findIdx?_map]; rfl
    rw [e1, e2, R.link.keys]
  have hsome : ((FQ g c D).findIdx? fun p => goalAt t cnt p.1).isSome = true := by
    rw [List.findIdx?_isSome, List.any_eq_true, ← List.find?_isSome, hQ]; rfl
  obtain ⟨p, hp⟩ := Option.isSome_iff_exists.mp hsome
  obtain ⟨hpl, g1, g2⟩ := List.findIdx?_eq_some_iff_getElem.mp hp
  have hfq : (FQ g c D)[p]? = some q := by
    rw [List.getElem?_eq_getElem hpl]
    rw [← hQ]
    symm
    rw [List.find?_eq_some_iff_getElem]
    exact ⟨g1, p, hpl, rfl, fun j hj => by simpa using g2 j hj⟩
  have hpr : p < rows.length := by rw [R.link.len]; exact hpl
  have hr : rows[p]? = some rows[p] := List.getElem?_eq_getElem hpr
  have ek := R.link.key p _ _ hr hfq
  have pr := Pk_props G hc hqm
  exact ⟨p, rows[p], q, hi.trans hp, hr, hfq, ek, hA, by rw [ek]; exact pr.2.1, pr.2.2⟩
theorem goal_none {g : Graph} {c : List Nat} {rows : List Row} {D : Nat} (R : Rows g c rows D) {t cnt : Nat} (h : minMoves g c t cnt = none) : goalIdx rows t cnt = none := by
  unfold goalIdx
  rw [List.findIdx?_eq_none_iff]
  intro r hr
  have hk : r.1 ∈ rows.map (·.1) := List.mem_map.mpr ⟨r, hr, rfl⟩
  rw [R.link.keys] at hk
  obtain ⟨q, hq, e⟩ := List.mem_map.mp hk
  obtain ⟨j, hj, hq⟩ := FQ_mem.mp hq
  have := minMoves_none R.dep h j
  rw [hit_iff] at this
  rw [← e]
  cases z : goalAt t cnt q.1 with
  | false => rfl
  | true => exact absurd (List.any_eq_true.mpr ⟨q, hq, z⟩) this

/-! ### the first sequence -/
def pre (m : Nat × Nat) (p : Pth) : Pth := (p.1, m :: p.2)
theorem ext_pre (g : Graph) (m : Nat × Nat) (p : Pth) : ext g (pre m p) = (ext g p).map (pre m) := by
  unfold ext pre
  rw [List.map_map]
  rfl
theorem All_front (g : Graph) (c : List Nat) : ∀ k, All g c (k + 1) = (possibleMoves g c).flatMap fun m => (All g (move c m.1 m.2) k).map (pre m)
  | 0 => by
    show (ext g (c, [])) ++ [] = _
    rw [List.append_nil]
    unfold ext All pre
    simp [List.flatMap_singleton', List.map_eq_flatMap]
  | k + 1 => by
    show (All g c (k + 1)).flatMap (ext g) = _
    rw [All_front g c k, List.flatMap_assoc]
    congr 1
    funext m
    show ((All g (move c m.1 m.2) k).map (pre m)).flatMap (ext g) = ((All g (move c m.1 m.2) k).flatMap (ext g)).map (pre m)
    rw [List.flatMap_map, List.map_flatMap]
    congr 1
    funext p
    exact ext_pre g m p
theorem hit_step {g : Graph} {c : List Nat} {t cnt k : Nat} {m : Nat × Nat} (hm : m ∈ possibleMoves g c) (h : hit g (move c m.1 m.2) t cnt k = true) : hit g c t cnt (k + 1) = true := by
  unfold hit at *
  rw [All_front]
  obtain ⟨p, hp, e⟩ := List.any_eq_true.mp h
  exact List.any_eq_true.mpr ⟨pre m p, List.mem_flatMap.mpr ⟨m, hm, List.mem_map.mpr ⟨p, hp, rfl⟩⟩, e⟩
theorem first_of {α β : Type} (P : α → Bool) (F : α → Option β) : ∀ (l : List α), (∀ a ∈ l, P a = (F a).isSome) → l.findSome? F = (l.find? P).bind F
  | [], _ => rfl
  | a :: l, h => by
    rw [List.findSome?_cons, List.find?_cons]
    have ha := h a (List.mem_cons_self ..)
    cases e : F a with
    | none =>
      rw [e] at ha
      rw [show P a = false from ha]
      exact first_of P F l fun b hb => h b (List.mem_cons_of_mem _ hb)
    | some b =>
      rw [e] at ha
      rw [show P a = true from ha]
      exact e.symm
theorem shortest_eq {g : Graph} (G : Good g) {t cnt : Nat} : ∀ (k : Nat) (c : List Nat), c.length = g.vertexCount → (∀ j, j < k → ¬ hit g c t cnt j = true) → hit g c t cnt k = true →
    shortestSequence g t cnt k c = ((All g c k).find? fun p => goalAt t cnt p.1).map (·.2)
  | 0, c, _, _, h => by
    have h' : goalAt t cnt c = true := by
      unfold hit at h
      obtain ⟨p, hp, e⟩ := List.any_eq_true.mp h
      have : p = (c, []) := List.mem_singleton.mp hp
      rw [this] at e
      exact e
    show some [] = ([(c, [])].find? fun p => goalAt t cnt p.1).map (·.2)
    rw [List.find?_cons, h']
    rfl
  | k + 1, c, hc, h0, h1 => by
    have hmin : ∀ m ∈ possibleMoves g c, (minMoves g (move c m.1 m.2) t cnt == some k) = (((All g (move c m.1 m.2) k).map (pre m)).find? fun p => goalAt t cnt p.1).isSome := by
      intro m hm
      have hl : (move c m.1 m.2).length = g.vertexCount := by rw [move_len, hc]
      obtain ⟨D, hD⟩ := depth_ex G hl
      rw [Bool.eq_iff_iff, beq_iff_eq, minMoves_iff hD, List.find?_isSome]
      have e : (∃ x ∈ (All g (move c m.1 m.2) k).map (pre m), goalAt t cnt x.1 = true) ↔ hit g (move c m.1 m.2) t cnt k = true := by
        unfold hit
        rw [List.any_eq_true]
        constructor
        · rintro ⟨x, hx, e⟩
          obtain ⟨p, hp, rfl⟩ := List.mem_map.mp hx
          exact ⟨p, hp, e⟩
        · rintro ⟨p, hp, e⟩
          exact ⟨pre m p, List.mem_map.mpr ⟨p, hp, rfl⟩, e⟩
      rw [e]
      exact ⟨fun z => z.1, fun z => ⟨z, fun j hj w => h0 (j + 1) (by omega) (hit_step hm w)⟩⟩
    have F := first_of (fun m => minMoves g (move c m.1 m.2) t cnt == some k) (fun m => ((All g (move c m.1 m.2) k).map (pre m)).find? fun p => goalAt t cnt p.1) (possibleMoves g c) hmin
    have hA : ((All g c (k + 1)).find? fun p => goalAt t cnt p.1) = ((possibleMoves g c).find? fun m => minMoves g (move c m.1 m.2) t cnt == some k).bind fun m => ((All g (move c m.1 m.2) k).map (pre m)).find? fun p => goalAt t cnt p.1 := by
      rw [All_front, List.find?_flatMap, F]
    rw [hA]
    unfold shortestSequence
    cases e : (possibleMoves g c).find? fun m => minMoves g (move c m.1 m.2) t cnt == some k with
    | none => rfl
    | some m =>
      dsimp only
      have hm : m ∈ possibleMoves g c := List.mem_of_find?_eq_some e
      have hl : (move c m.1 m.2).length = g.vertexCount := by rw [move_len, hc]
      obtain ⟨D, hD⟩ := depth_ex G hl
      have hk := List.find?_some e
      rw [beq_iff_eq, minMoves_iff hD] at hk
      rw [shortest_eq G k (move c m.1 m.2) hl hk.2 hk.1, Option.bind_some, List.find?_map]
      rw [Option.map_map, Option.map_map]
      rfl

/-! ### the way back through the rows -/
def backR (rows : List Row) : Nat → Nat → List (List Nat)
  | 0, _ => []
  | f + 1, p => if p = 0 then [] else match rows[p]? with
    | none => []
    | some r => r.2.2 :: backR rows f r.2.1
theorem backR_zero (rows : List Row) (f : Nat) : backR rows f 0 = [] := by
  cases f <;> rfl
theorem Link.before {rows : List Row} {Q : List Pth} (L : Link rows Q) {p : Nat} {r : Row} (h : rows[p]? = some r) (hp : 0 < p) : r.2.1 < p ∧ ∃ m : Nat × Nat, r.2.2 = [m.1, m.2] := by
  have hl : p < Q.length := by
    rw [← L.len]
    exact (List.getElem?_eq_some_iff.mp h).1
  obtain ⟨b1, _, m, _, b2, _⟩ := L.back p r _ h (List.getElem?_eq_getElem hl) hp
  exact ⟨b1, m, b2⟩
theorem backR_fuel {rows : List Row} {Q : List Pth} (L : Link rows Q) : ∀ (f p : Nat), p ≤ f → backR rows f p = backR rows p p
  | 0, p, h => by
    have : p = 0 := by omega
    subst this; rfl
  | f + 1, p, h => by
    cases p with
    | zero => rfl
    | succ p =>
      show (if p + 1 = 0 then [] else _) = (if p + 1 = 0 then [] else _)
      rw [if_neg (by omega), if_neg (by omega)]
      cases e : rows[p + 1]? with
      | none => rfl
      | some r =>
        dsimp only
        have b := (L.before e (by omega)).1
        rw [backR_fuel L f r.2.1 (by omega), backR_fuel L p r.2.1 (by omega)]
theorem back_step {rows : List Row} {Q : List Pth} (L : Link rows Q) {p : Nat} {r : Row} (h : rows[p]? = some r) (hp : 0 < p) : backR rows p p = r.2.2 :: backR rows r.2.1 r.2.1 := by
  obtain ⟨f, rfl⟩ : ∃ f, p = f + 1 := ⟨p - 1, by omega⟩
  show (if f + 1 = 0 then [] else _) = _
  rw [if_neg (by omega), h]
  dsimp only
  rw [backR_fuel L f r.2.1 (by have := (L.before h hp).1; omega)]
theorem back_eq {rows : List Row} {Q : List Pth} (L : Link rows Q) : ∀ (n p : Nat), p < n → ∀ q, Q[p]? = some q → (backR rows p p).reverse = q.2.map fun m => [m.1, m.2]
  | 0, p, h, _, _ => absurd h (Nat.not_lt_zero p)
  | n + 1, p, h, q, hq => by
    rcases Nat.eq_zero_or_pos p with e | e
    · subst e
      rw [L.zero q hq]
      rfl
    · have hl : p < rows.length := by
        rw [L.len]
        exact (List.getElem?_eq_some_iff.mp hq).1
      have hr : rows[p]? = some rows[p] := List.getElem?_eq_getElem hl
      obtain ⟨b1, q0, m, b2, b3, b4⟩ := L.back p _ _ hr hq e
      rw [back_step L hr e, List.reverse_cons, back_eq L n _ (by omega) q0 b2, b3, b4, List.map_append]
      rfl

/-! ### the largest number, the levels -/
theorem fold_max : ∀ (l : List Nat) (a m : Nat), (∀ y ∈ l, y ≤ m) → a ≤ m → (m ∈ l ∨ m = a) → l.foldl max a = m
  | [], a, m, _, _, h => by
    rcases h with h | h
    · cases h
    · exact h.symm
  | x :: l, a, m, h1, h2, h3 => by
    rw [List.foldl_cons]
    have hx := h1 x (List.mem_cons_self ..)
    refine fold_max l (max a x) m (fun y hy => h1 y (List.mem_cons_of_mem _ hy)) (by omega) ?_
    rcases h3 with h3 | h3
    · rcases List.mem_cons.mp h3 with e | h3
      · right; omega
      · exact .inl h3
    · right; omega
theorem levels_flat {g : Graph} {c : List Nat} {D : Nat} (h : Depth g c D) (t : Nat) : ((levels g c).flatMap fun level => level.map fun d => pebblesAt d t) = (FQ g c D).map fun p => pebblesAt p.1 t := by
  rw [h.lev]
  unfold FQ
  rw [List.flatMap_map, List.map_flatMap]
  congr 1
  funext k
  rw [List.map_map]
  rfl
theorem Rows.vals {g : Graph} {c : List Nat} {rows : List Row} {D : Nat} (R : Rows g c rows D) (t : Nat) : ((FQ g c D).map fun p => pebblesAt p.1 t) = rows.map fun r => pebblesAt r.1 t := by
  have e1 : ((FQ g c D).map fun p => pebblesAt p.1 t) = ((FQ g c D).map (·.1)).map fun d => pebblesAt d t := by rw [List.map_map]; rfl
  have e2 : (rows.map fun p => pebblesAt p.1 t) = (rows.map (·.1)).map fun d => pebblesAt d t := by rw [List.map_map]; rfl
  rw [e1, e2, R.link.keys]
theorem max_eq {g : Graph} {c : List Nat} {rows : List Row} {D : Nat} (R : Rows g c rows D) {t m : Nat} (h1 : m ∈ rows.map fun r => pebblesAt r.1 t) (h2 : ∀ y ∈ rows.map fun r => pebblesAt r.1 t, y ≤ m) : maxPebblesAt g c t = m := by
  unfold maxPebblesAt
  rw [levels_flat R.dep, R.vals]
  exact fold_max _ 0 m h2 (Nat.zero_le _) (.inl h1)
theorem reach_eq {g : Graph} {c : List Nat} {rows : List Row} {D : Nat} (R : Rows g c rows D) {t m : Nat} (h1 : m ∈ rows.map fun r => pebblesAt r.1 t) (h2 : ∀ y ∈ rows.map fun r => pebblesAt r.1 t, y ≤ m) : canReach g c t 1 = decide (0 < m) := by
  unfold canReach
  rw [← R.vals] at h1 h2
  rw [Bool.eq_iff_iff, decide_eq_true_iff]
  constructor
  · intro h
    obtain ⟨k, hk⟩ := Option.isSome_iff_exists.mp h
    have := ((minMoves_iff R.dep).mp hk).1
    have hkD : k < D := by
      rcases Nat.lt_or_ge k D with e | e
      · exact e
      · have := hit_iff.mp this
        rw [R.dep.out k e] at this
        cases this
    obtain ⟨p, hp, e⟩ := List.any_eq_true.mp (hit_iff.mp this)
    have := h2 _ (List.mem_map.mpr ⟨p, FQ_mem.mpr ⟨k, hkD, hp⟩, rfl⟩)
    unfold goalAt at e
    have e' := of_decide_eq_true e
    omega
  · intro h
    obtain ⟨p, hp, e⟩ := List.mem_map.mp h1
    obtain ⟨k, hk, hp⟩ := FQ_mem.mp hp
    cases z : minMoves g c t 1 with
    | some k => rfl
    | none =>
      exfalso
      refine minMoves_none R.dep z k (hit_iff.mpr (List.any_eq_true.mpr ⟨p, hp, ?_⟩))
      unfold goalAt
      exact decide_eq_true (by omega)
theorem FQ_len (g : Graph) (c : List Nat) : ∀ D, (FQ g c D).length = (((List.range D).map fun k => (Pk g c k).map (·.1)).map List.length).sum
  | 0 => rfl
  | D + 1 => by
    rw [FQ_succ, List.length_append, FQ_len g c D, List.range_succ, List.map_append, List.map_append, List.sum_append]
    simp
theorem count_eq {g : Graph} (G : Good g) {c : List Nat} (hc : c.length = g.vertexCount) {rows : List Row} {D : Nat} (R : Rows g c rows D) :
    0 < rows.length ∧ (∀ r, rows[rows.length - 1]? = some r → r.1.sum + ((levels g c).length - 1) = c.sum) ∧ (levels g c).length = D ∧ 0 < D ∧ rows.length = ((levels g c).map List.length).sum := by
  have hpos := R.dep.pos
  have eD : (levels g c).length = D := by rw [R.dep.lev, List.length_map, List.length_range]
  obtain ⟨E, rfl⟩ : ∃ E, D = E + 1 := ⟨D - 1, by omega⟩
  have hne := R.dep.full E (by omega)
  have hlen : rows.length = ((levels g c).map List.length).sum := by rw [R.link.len, FQ_len, R.dep.lev]
  have hl0 : 0 < (Pk g c E).length := List.length_pos_iff.mpr hne
  have hl1 : rows.length = (FQ g c E).length + (Pk g c E).length := by rw [R.link.len, FQ_succ, List.length_append]
  refine ⟨by omega, fun r hr => ?_, eD, hpos, hlen⟩
  rw [eD, Nat.add_sub_cancel]
  have hq : (FQ g c (E + 1))[rows.length - 1]? = some ((Pk g c E)[(Pk g c E).length - 1]'(by omega)) := by
    rw [FQ_succ, List.getElem?_append_right (by omega), show rows.length - 1 - (FQ g c E).length = (Pk g c E).length - 1 by omega]
    exact List.getElem?_eq_getElem _
  have ek := R.link.key _ _ _ hr hq
  rw [ek]
  exact (Pk_props G hc (List.getElem_mem _)).2.1
end HP

namespace HP
open PySem PySem.Spec PyProof.Rows L2

/-! ### heaps: what is like what -/
/-- tuples stand as they stood -/
def Tk (H H' : Hp) : Prop := ∀ (a : Addr) (xs : List V), H a = some (.tup xs) → H' a = some (.tup xs)
theorem Tk.refl (H : Hp) : Tk H H := fun _ _ h => h
theorem Tk.trans {H H1 H2 : Hp} (a : Tk H H1) (b : Tk H1 H2) : Tk H H2 := fun c xs h => b c xs (a c xs h)
theorem Tk.same {H H' : Hp} (s : Same H H') : Tk H H' := fun a xs h => s a _ h
theorem Tk.lst {H : Hp} {p : Addr} {o : HO} {ys : List V} (h : H p = some (.lst ys)) : Tk H (upd H p o) := fun a xs e => by
  rw [upd_ne (ne_of e h (fun z => nomatch z))]; exact e
theorem Tk.dct {H : Hp} {p : Addr} {o : HO} {ys : List (List Key × V)} (h : H p = some (.dT ys)) : Tk H (upd H p o) := fun a xs e => by
  rw [upd_ne (ne_of e h (fun z => nomatch z))]; exact e
theorem Tk.new {H : Hp} {p : Addr} {o : HO} (h : H p = none) : Tk H (upd H p o) := fun a xs e => by
  rw [upd_ne (ne_of_none e h)]; exact e
theorem same_new {H : Hp} {p : Addr} {o : HO} (h : H p = none) : Same H (upd H p o) := fun b x e => by
  rw [upd_ne (ne_of_none e h)]; exact e
/-- an object that is newer than H changes -/
theorem same_upd {H H' : Hp} {p : Addr} {o : HO} (s : Same H H') (h : H p = none) : Same H (upd H' p o) := fun b x e => by
  rw [upd_ne (ne_of_none e h)]; exact s b x e

/-! ### two lists, place by place -/
structure Al {A B : Type} (R : A → B → Prop) (as : List A) (bs : List B) : Prop where
  len : as.length = bs.length
  each : ∀ (i : Nat) (a : A) (b : B), as[i]? = some a → bs[i]? = some b → R a b
section
variable {A B : Type} {R R' : A → B → Prop} {as : List A} {bs : List B}
theorem Al.nil : Al R [] [] := ⟨rfl, fun i a b h => by simp at h⟩
theorem Al.mono (h : Al R as bs) (f : ∀ a b, R a b → R' a b) : Al R' as bs := ⟨h.len, fun i a b h1 h2 => f a b (h.each i a b h1 h2)⟩
theorem Al.snoc {a : A} {b : B} (h : Al R as bs) (r : R a b) : Al R (as ++ [a]) (bs ++ [b]) := by
  refine ⟨by rw [List.length_append, List.length_append, h.len]; rfl, fun i x y h1 h2 => ?_⟩
  have hl := h.len
  by_cases hi : i < as.length
  · rw [List.getElem?_append_left hi] at h1
    rw [List.getElem?_append_left (by omega)] at h2
    exact h.each i x y h1 h2
  · rw [List.getElem?_append_right (by omega)] at h1 h2
    rw [hl] at h1
    cases hd : i - bs.length with
    | zero =>
      rw [hd] at h1 h2
      cases h1
      cases h2
      exact r
    | succ j =>
      rw [hd] at h1
      cases h1
theorem Al.get (h : Al R as bs) {i : Nat} {b : B} (e : bs[i]? = some b) : ∃ a, as[i]? = some a ∧ R a b := by
  have hi : i < as.length := by
    rw [h.len]
    exact (List.getElem?_eq_some_iff.mp e).1
  exact ⟨as[i], List.getElem?_eq_getElem hi, h.each i _ _ (List.getElem?_eq_getElem hi) e⟩
theorem Al.get' (h : Al R as bs) {i : Nat} {a : A} (e : as[i]? = some a) : ∃ b, bs[i]? = some b ∧ R a b := by
  have hi : i < bs.length := by
    rw [← h.len]
    exact (List.getElem?_eq_some_iff.mp e).1
  exact ⟨bs[i], List.getElem?_eq_getElem hi, h.each i _ _ e (List.getElem?_eq_getElem hi)⟩
end
theorem take_more {A : Type} {l : List A} {i : Nat} {x : A} (h : l[i]? = some x) : l.take (i + 1) = l.take i ++ [x] := by
  rw [List.take_add_one, h]; rfl

/-! ### numbers, references -/
def vn (l : List Nat) : List V := l.map fun (n : Nat) => V.int n
def rf (as : List Addr) : List V := as.map V.ref
theorem vn_len (l : List Nat) : (vn l).length = l.length := List.length_map _
theorem rf_len (l : List Addr) : (rf l).length = l.length := List.length_map _
theorem vn_at {l : List Nat} {i : Nat} {n : Nat} (h : l[i]? = some n) : (vn l)[i]? = some (.int n) := by
  unfold vn; rw [List.getElem?_map, h]; rfl
theorem vn_atD {l : List Nat} {i : Nat} (h : i < l.length) : (vn l)[i]? = some (.int (l.getD i 0 : Nat)) := by
  rw [List.getD_eq_getElem?_getD, List.getElem?_eq_getElem h]
  exact vn_at (List.getElem?_eq_getElem h)
theorem vn_inv {l : List Nat} {i : Nat} {v : V} (h : (vn l)[i]? = some v) : ∃ n, l[i]? = some n ∧ v = .int (n : Nat) := by
  unfold vn at h
  rw [List.getElem?_map] at h
  cases e : l[i]? with
  | none => rw [e] at h; cases h
  | some n => rw [e] at h; cases h; exact ⟨n, rfl, rfl⟩
theorem rf_at {l : List Addr} {i : Nat} {a : Addr} (h : l[i]? = some a) : (rf l)[i]? = some (.ref a) := by
  unfold rf; rw [List.getElem?_map, h]; rfl
theorem rf_inv {l : List Addr} {i : Nat} {v : V} (h : (rf l)[i]? = some v) : ∃ a, l[i]? = some a ∧ v = .ref a := by
  unfold rf at h
  rw [List.getElem?_map] at h
  cases e : l[i]? with
  | none => rw [e] at h; cases h
  | some n => rw [e] at h; cases h; exact ⟨n, rfl, rfl⟩
theorem rf_snoc (l : List Addr) (a : Addr) : rf l ++ [.ref a] = rf (l ++ [a]) := by unfold rf; rw [List.map_append]; rfl
theorem vn_snoc (l : List Nat) (a : Nat) : vn l ++ [.int a] = vn (l ++ [a]) := by unfold vn; rw [List.map_append]; rfl
theorem vn_app (l m : List Nat) : vn l ++ vn m = vn (l ++ m) := by unfold vn; rw [List.map_append]
def nis (l : List Nat) : List Int := l.map fun (n : Nat) => (n : Int)
theorem vn_nis (l : List Nat) : vn l = (nis l).map V.int := by unfold vn nis; rw [List.map_map]; rfl
theorem nis_sum : ∀ l : List Nat, (nis l).sum = ((l.sum : Nat) : Int)
  | [] => rfl
  | a :: l => by
    have ih := nis_sum l
    show ((a : Int) :: nis l).sum = _
    rw [List.sum_cons, List.sum_cons, ih]
    omega
/-- at a: the tuple of the numbers -/
def TupN (H : Hp) (a : Addr) (l : List Nat) : Prop := H a = some (.tup (vn l))
theorem TupN.keep {H H' : Hp} {a : Addr} {l : List Nat} (k : Tk H H') (h : TupN H a l) : TupN H' a l := k _ _ h
/-- .. as a key -/
def ky (l : List Nat) : List Key := l.map fun (n : Nat) => Sum.inl (n : Int)
theorem ky_kV (l : List Nat) : (ky l).map kV = vn l := by unfold ky vn; rw [List.map_map]; rfl
theorem ky_inj : ∀ {l m : List Nat}, ky l = ky m → l = m
  | [], [], _ => rfl
  | [], _ :: _, h => by cases h
  | _ :: _, [], h => by cases h
  | a :: l, b :: m, h => by
    have h' : (Sum.inl (a : Int) : Key) :: ky l = Sum.inl (b : Int) :: ky m := h
    injection h' with h1 h2
    have h3 : (a : Int) = b := Sum.inl.inj h1
    have h4 : a = b := by omega
    rw [h4, ky_inj h2]
theorem atI_at {xs : List V} {i : Nat} {v : V} (h : xs[i]? = some v) : atI xs (i : Int) = some v := atI_nat h

/-! ### sum of a tuple of nis -/
def rSumT (K : PySem.W.Frag) : List V → Hp → VK → Prop := fun vs H Q => ∃ (a : Addr) (ns : List Int), vs = [V.ref a] ∧ SqT K H a (ns.map V.int) ∧ Q (.int ns.sum) H
theorem cr_sumT {X : Cx} (hc : X.calm = true) : CallR X (.builtin "sum") (rSumT X.K) := by
  intro pins s σ H vs us Q I r h
  obtain ⟨a, ns, rfl, hs, q⟩ := h
  obtain ⟨its, rv, hl, _⟩ := I.tuple hs
  rw [Vals.ref1 r]
  have hi := rv.ints
  obtain ⟨xs, e⟩ := hi.allInts.items
  have hn : numsOf (intItems xs).toList = ns := by rw [← e]; exact hi.numsOf
  rw [nums_intItems] at hn
  have hl' : s.heap.IsTuple a (intItems xs) := by rw [← e]; exact hl
  refine PySem.W.ktm_sumG (I.ok.hd hc) hl' fun h' tk t' hk => ?_
  rw [preSum_eq, List.take_of_length_le (by simp), hn]
  exact ⟨.int _, H, I.kept hk, ⟨_, rfl⟩, q⟩

/-! ### {k: v} with one tuple for its key -/
def tDispT1 (tk tv : TE) : TE := fun σ H Q => ∀ p, H p = none → tk σ (upd H p (.dT [])) fun x H1 => tv σ H1 fun y H2 => H2 p = some (.dT []) ∧ ∃ (b : Addr) (k : List Key), x = .ref b ∧ H2 b = some (.tup (k.map kV)) ∧ Q (.ref p) (upd H2 p (.dT [(k, y)]))
theorem pe_dispT1 {X : Cx} {pos : Pos} {ke ve : Expr} {tk tv : TE} (hu : X.A.units + 1 < cLine) (hk : PE X ke tk) (hv : PE X ve tv) : PE X (.Dict [some ke] [ve] pos) (tDispT1 tk tv) := by
  refine ⟨fun pins s σ H Q I q => ?_⟩
  have hn := I.hok.fresh (Nat.le_refl s.heap.objs.size)
  have I1 := I.laid (a := s.heap.objs.size) (o := .dT []) (h' := s.heap.push { cls := .type "dict", data := .dict #[] }) (t' := s.toks) (fun _ _ q => Heap.get?_push_of_some _ q) (Nat.le_refl _) (dt_empty s.heap I.big)
  have hroom : (tupleKind (mixKind X.prog X.w)).room X.A := Nat.lt_of_succ_lt hu
  rw [arm_eval_Dict, zip_pairTrees [some ke] [ve] X.env pos rfl rfl, dictDisplay_pairs (pairTrees [some ke] [ve] X.env pos) (by intro z; cases z) (by show 1 < 17; decide)]
  refine wpAny_bind (wpAny_standAt (wpAny_bind (wpAny_subDictH (knd := tupleKind (mixKind X.prog X.w)) (Q := fun d s' => wpAny (model X.prog X.w) X.A (pure (Value.ref d)) (EP X pins σ Q) X.xe s') hroom (by show 1 ≤ 15; decide)
    (pairTrees_cons_walk (thn (hk.run pins _ σ _ _ I1 (q _ hn)) fun u s1 ⟨x, H1, I2, rx, q1⟩ => thn (hv.run pins s1 σ H1 _ I2 q1) fun r s2 ⟨y, H2, I3, ry, e, b, k, ex, eb, q2⟩ => pairTrees_nil_walk ?_)))))
  subst ex
  obtain rfl : u = Value.ref b := rx
  obtain ⟨z, hd, xs0, r0, dd⟩ := dt_of I3.hok e
  cases r0
  refine ⟨[(k, b, r)], ⟨rfl, rfl, key_of I3.hok eb, trivial⟩, dd, fun h' tk dd' hs => wpAny_pure ⟨.ref s.heap.objs.size, _, ?_, rfl, q2⟩⟩
  obtain ⟨o', es, ep, hq, h2, h3, h4, _, h5⟩ := dd'
  refine d_write (t' := tk) I3 (by rw [e]; exact True.intro) hs ⟨o', hq⟩ ⟨by rw [sizeLine_eq]; show 1 ≤ 16777216; decide, hd, [(k, b, r)], ?_, o', es, ep, hq, h2, h3, h4, h5⟩
  refine .cons ⟨rfl, ?_, ry⟩ .nil
  rw [upd_ne (ne_of eb e (fun z => nomatch z))]
  exact eb
end HP

namespace HP
open PySem PySem.Spec PyProof.Rows L2

/-! ### the text -/
def top (i : Nat) : Stmt := PySem.Challenge.pw_halvedpebbles_s04_reachable_vertices.main.body.getD i (.Pass ⟨0, 0, 0, 0⟩)
abbrev sInit : Stmt := inClass (top 2) 0
abbrev s_need : Stmt := top 3
abbrev s_pairs_of : Stmt := top 7
abbrev s_are_edges : Stmt := top 8
abbrev s_neighbours_of : Stmt := top 9
abbrev s_read_graph : Stmt := top 10
abbrev s_read_pebbles : Stmt := top 11
abbrev s_moved : Stmt := top 14
abbrev s_possible_moves : Stmt := top 15
abbrev s_all_rows : Stmt := top 16
abbrev s_most_at : Stmt := top 17
abbrev s_reached_vertices : Stmt := top 19
abbrev s_reachable_vertices : Stmt := top 21
/-- a def of the text, found by its name -/
def Dk (K : PySem.W.Frag) (mg : Str → Option Value) (x : Str) (st : Stmt) (ps : List Str) : Prop := ∃ (f : Addr) (fd : FuncData), mg x = some (.ref f) ∧ Fun K x x st f fd ∧ Binds K fd ps []
/-- a whole number that the top has written -/
def Ck (mg : Str → Option Value) (x : Str) (i : Int) : Prop := ∃ t, mg x = some (.int i t)
/-- the class of refusals -/
structure Rk (K : PySem.W.Frag) (mg : Str → Option Value) (C fI : Addr) : Prop where
  gC : mg "Refused" = some (.ref C)
  ox : OexC K C
  iC : PySem.W.findIn K (.ref C) "__init__" = some (some (.ref fI))
  tI : PySem.W.typeIn K (.ref fI) = some (.type "function")
  noC : PySem.W.findIn K (.ref C) "code" = some none
  vV : PySem.W.findCls K (.type "ValueError") (.type "type") "__init__" = some (.val (.builtin "ValueError.__init__"))
  xf : XfC K C
  te : PySem.W.exmOne K (.ref C) (.ref C) = some true
  ini : ∃ fd : FuncData, Fun K "__init__" "Refused.__init__" sInit fI fd ∧ Binds K fd ["self", "code"] []
/-- what the top has written -/
structure Txt (K : PySem.W.Frag) (mg : Str → Option Value) (C fI : Addr) : Prop where
  rk : Rk K mg C fI
  d_need : Dk K mg "need" s_need ["truth", "code"]
  d_pairs_of : Dk K mg "pairs_of" s_pairs_of ["row"]
  d_are_edges : Dk K mg "are_edges" s_are_edges ["vertex_count", "edges"]
  d_neighbours_of : Dk K mg "neighbours_of" s_neighbours_of ["vertex", "pairs"]
  d_read_graph : Dk K mg "read_graph" s_read_graph ["vertex_count", "edges"]
  d_read_pebbles : Dk K mg "read_pebbles" s_read_pebbles ["graph", "pebbles"]
  d_moved : Dk K mg "moved" s_moved ["configuration", "source", "target"]
  d_possible_moves : Dk K mg "possible_moves" s_possible_moves ["graph", "configuration"]
  d_all_rows : Dk K mg "all_rows" s_all_rows ["graph", "start"]
  d_most_at : Dk K mg "most_at" s_most_at ["rows", "target"]
  d_reached_vertices : Dk K mg "reached_vertices" s_reached_vertices ["vertex_count", "edges", "pebbles"]
  d_reachable_vertices : Dk K mg "reachable_vertices" s_reachable_vertices ["vertex_count", "edges", "pebbles"]
  c_OUT_OF_LIMITS : Ck mg "OUT_OF_LIMITS" (-22)
  c_MOST_VERTICES : Ck mg "MOST_VERTICES" 5
  c_MOST_PEBBLES : Ck mg "MOST_PEBBLES" 12
  c_COST : Ck mg "COST" 2
  m_len : mg "len" = none
  m_range : mg "range" = none
  m_all : mg "all" = none
  m_zip : mg "zip" = none
  m_tuple : mg "tuple" = none
  m_list : mg "list" = none
  m_sum : mg "sum" = none
  m_max : mg "max" = none
  m_ValueError : mg "ValueError" = none
end HP

namespace HP
open PySem PySem.Spec PyProof.Rows L2
section
variable {P : Program} {w : World} {K : PySem.W.Frag} {mg : Str → Option Value} {base : Heap} {C fI : Addr}

/-! ### Refused.__init__ -/
theorem sc_init : FnScope ["self", "code"] ["self", "code"] (defScope sInit) := ⟨rfl, rfl, rfl, by decide +kernel, rfl, by decide +kernel, by decide +kernel⟩
def spInit (C : Addr) : Sp := fun vs H Q _ => ∃ (a : Addr) (c : Int), vs = [.ref a, .int c] ∧ H a = some (exo a C none) ∧
  ∀ dx, H dx = none → dx ≠ a → Q .non (upd (upd H dx (exd dx [("code", .int c)])) a (exo a C (some dx)))
theorem ok_init (T : Rk K mg C fI) (mV : mg "ValueError" = none) {fd : FuncData} (F : Fun K "__init__" "Refused.__init__" sInit fI fd) : FnOk P w K mg base CX0 1 fI fd ["self", "code"] (spInit C) := by
  refine F.ok sc_init (fun vs H Q E h => ?_) (fun cdv A outer s H vs Q E hr h => ?_)
  · obtain ⟨a, c, rfl, _⟩ := h
    rfl
  · obtain ⟨a, c, rfl, ha, q⟩ := h
    refine ⟨_, pss_cons (ps_expr (pe_veinit (by rfl) mV T.vV (pa_cons (pv 0) (pa_cons pe_str pa_nil)))) (pss_one (ps_ost (pv 0) (pv 1))), ?_⟩
    refine ⟨_, rfl, a, C, [.str "refused"], rfl, by show 1 ≤ 1000; decide, T.ox, ha, ?_⟩
    exact ⟨_, rfl, _, rfl, a, C, rfl, T.ox, T.noC, Or.inl ⟨ha, fun dx n ne => q dx n ne⟩⟩

/-! ### need -/
theorem sc_need : FnScope ["truth", "code"] ["truth", "code"] (defScope s_need) := ⟨rfl, rfl, rfl, by decide +kernel, rfl, by decide +kernel, by decide +kernel⟩
/-- what a refusal leaves: H stands, the error's own dict tells the code -/
def RefE (C : Addr) (H : Hp) (c : Int) (E : XK) : Prop := ∀ (d : Addr) (H' : Hp), Same H H' → H' d = some (.xd [(("code" : Str), .int c)]) → E (.ref C) (some d) H'
def spNeed (C : Addr) : Sp := fun vs H Q E => ∃ (t : Bool) (c : Int), vs = [.bl t, .int c] ∧ (t = true → Q .non H) ∧ (t = false → RefE C H c E)
theorem ok_need (T : Rk K mg C fI) (mV : mg "ValueError" = none) {f : Addr} {fd : FuncData} (F : Fun K "need" "need" s_need f fd) : FnOk P w K mg base (L2.CX P w) 3 f fd ["truth", "code"] (spNeed C) := by
  obtain ⟨fdI, FI, bI⟩ := T.ini
  have GI : FnOk P w K mg base CX0 1 fI fdI ["self", "code"] (spInit C) := ok_init T mV FI
  refine F.okX sc_need (fun vs H Q E h => ?_) (fun cdv A outer s H vs Q E hr h => ?_)
  · obtain ⟨t, c, rfl, _⟩ := h
    rfl
  · obtain ⟨t, c, rfl, q1, q2⟩ := h
    refine ⟨_, pss_one (ps_if (pt_not (pt_val (pv 0))) (pss_one (ps_raise rfl (takes_of rfl rfl rfl rfl) (pmk_oex T.ox T.iC T.tI GI hr bI .nil pass0 (by rfl) T.gC (pa_cons (pv 1) pa_nil)))) pss_nil), ?_⟩
    refine ⟨_, rfl, t, rfl, ?_⟩
    cases t with
    | true => exact iteF (q1 rfl)
    | false =>
      refine iteT ⟨_, rfl, by show 1 ≤ 1000; decide, fun a na => ⟨a, c, rfl, upd_same, fun dx n ne => ⟨rfl, dx, [(("code" : Str), .int c)], upd_same, ?_, ?_, ?_⟩⟩⟩
      · rw [upd_ne ne]; exact upd_same
      · rw [upd_ne ne] at n; exact n
      · have n' : H dx = none := by rw [upd_ne ne] at n; exact n
        refine q2 rfl dx _ (fun b o e => ?_) upd_same
        rw [upd_ne (ne_of_none e n'), del_ne (ne_of_none e na), upd_ne (ne_of_none e na), upd_ne (ne_of_none e n'), upd_ne (ne_of_none e na)]
        exact e
end
end HP

namespace HP
open PySem PySem.Spec PyProof.Rows L2
theorem rg2 : ∀ h : Nat, h < 64 → Builtin.Range.small 0 (2 * (h : Int)) 2 = true ∧ Builtin.Range.rangeSize 0 (2 * (h : Int)) 2 = (h : Int) := by decide +kernel
theorem rgc2 {h : Nat} (hh : h < 64) : RgC 0 (2 * (h : Int)) 2 h := ⟨by decide, by decide, (rg2 h hh).1, (rg2 h hh).2⟩
theorem sl_small {n : Nat} (h : n ≤ 1000000) : n < sizeLine := Nat.lt_of_le_of_lt h (by rw [sizeLine_eq]; decide)
theorem sl_le {n : Nat} (h : n ≤ 1000000) : n ≤ sizeLine := Nat.le_of_lt (sl_small h)
/-- a pair of numbers at a -/
def PairN (H : Hp) (a : Addr) (q : Nat × Nat) : Prop := TupN H a [q.1, q.2]
theorem lexLt_pair (p q : Nat × Nat) : HT.lexLt [(p.1 : Int), (p.2 : Int)] [(q.1 : Int), (q.2 : Int)] = lx p q := by
  rw [HT.lexLt_cons, HT.lexLt_cons, HT.lexLt_nil_nil]
  unfold lx
  by_cases h : p.1 = q.1
  · rw [if_pos (by omega)]
    by_cases h2 : p.2 = q.2
    · rw [if_pos (by omega)]
      simp [h, h2]
    · rw [if_neg (by omega)]
      rw [Bool.eq_iff_iff]
      simp [h]
  · rw [if_neg (by omega)]
    rw [Bool.eq_iff_iff]
    simp [h]
theorem yes_if {σ : L2.St} {H : Hp} {A B : Hp → Prop} (h : A H) : tYes σ H fun b H3 => if b = true then A H3 else B H3 := by
  show (if true = true then A H else B H)
  rw [if_pos rfl]; exact h
section
variable {P : Program} {w : World} {K : PySem.W.Frag} {mg : Str → Option Value} {base : Heap} {C fI : Addr}

/-! ### pairs_of -/
theorem sc_pairs_of : FnScope ["row", "place"] ["row"] (defScope s_pairs_of) := ⟨rfl, rfl, rfl, by decide +kernel, rfl, by decide +kernel, by decide +kernel⟩
def spPairs (K : PySem.W.Frag) : Sp := fun vs H Q _ => ∃ (a : Addr) (row : List Nat), vs = [.ref a] ∧ SqL K H a (vn row) ∧ row.length % 2 = 0 ∧ row.length ≤ 100 ∧
  ∀ (H' : Hp) (p : Addr) (as : List Addr), Same H H' → H p = none → H' p = some (.lst (rf as)) → Al (PairN H') as (prs row) → Q (.ref p) H'
theorem ok_pairs_of (T : Txt K mg C fI) {f : Addr} {fd : FuncData} (F : Fun K "pairs_of" "pairs_of" s_pairs_of f fd) : FnOk P w K mg base CX0 1 f fd ["row"] (spPairs K) := by
  refine F.ok sc_pairs_of (fun vs H Q E h => ?_) (fun cdv A outer s H vs Q E hr h => ?_)
  · obtain ⟨a, c, rfl, _⟩ := h
    rfl
  · obtain ⟨a, row, rfl, hS, hev, hlen, q⟩ := h
    refine ⟨_, pss_one (ps_ret (pe_lc (own := [("place", 1)]) (g := gName 1) (tt := tYes) (te := tTup (tCons (tOp (rIxL K) (tVar 0) (tVar 1)) (tCons (tOp (rIxL K) (tVar 0) (tOp (rI0 fun i j => .int (i + j)) (tVar 1) (tC (.int 1)))) tNil))) rfl sc_pairs_of.nd
      (pi_range3 (by rfl) T.m_range (pa_cons pe_int (pa_cons (pe_callB call_len_seq (by rfl) T.m_len PySem.boot_len (pa_cons (pv 0) pa_nil)) (pa_cons pe_int pa_nil))))
      (blkOk_by (N := ["row", "place"]) (sc := defScope s_pairs_of) (by decide +kernel)) (fun _ _ _ _ _ => pg_name (i := 1) sc_pairs_of.nd rfl (Or.inl rfl)) (fun _ _ _ _ _ => pts_nil)
      (fun _ _ _ _ _ => pe_tup (pa_cons (pe_ix ix_list (pv 0) (pv 1) (fun _ _ => rfl)) (pa_cons (pe_ix ix_list (pv 0) (pe_op op_add (pv 1) pe_int) (fun _ _ => rfl)) pa_nil))))), ?_⟩
    obtain ⟨h, eh⟩ : ∃ h, row.length = 2 * h := ⟨row.length / 2, by omega⟩
    have hpl : (prs row).length = h := by have := prs_len row hev; omega
    refine ⟨_, rfl, a, vn row, rfl, .inl hS, 0, 2 * (h : Int), 2, h, ?_, rgc2 (by omega), fun D nD => ?_⟩
    · rw [vn_len, eh]
      show [V.int 0, V.int ((2 * h : Nat) : Int), V.int 2] = _
      rw [Int.natCast_mul]; rfl
    refine lc_it walk_rangeC (fun i H' => Same H H' ∧ ∃ as, H' D = some (.lst (rf as)) ∧ Al (PairN H') as ((prs row).take i)) ⟨same_new nD, [], upd_same, .nil⟩ (fun _ _ _ _ => trivial) ?_ ?_
    · rintro i x H1 H2 hi ⟨sm, as, hD, al⟩ ⟨rfl, ex⟩
      have i1 : 2 * i < row.length := by omega
      have i2 : 2 * i + 1 < row.length := by omega
      have e1 : (0 : Int) + (i : Nat) * 2 = ((2 * i : Nat) : Int) := by omega
      have e2 : ((2 * i : Nat) : Int) + 1 = ((2 * i + 1 : Nat) : Int) := by omega
      have ex : x = .int ((2 * i : Nat) : Int) := by rw [← e1]; exact ex
      subst ex
      refine ⟨rfl, yes_if ?_⟩
      refine ⟨_, rfl, _, rfl, a, vn row, _, .int (row.getD (2 * i) 0 : Nat), rfl, rfl, sm.seq hS, atI_at (vn_atD i1), ?_⟩
      refine ⟨_, rfl, _, rfl, _, _, rfl, rfl, a, vn row, _, .int (row.getD (2 * i + 1) 0 : Nat), rfl, rfl, sm.seq hS, (by rw [e2]; exact atI_at (vn_atD i2)), ?_⟩
      refine ⟨(by show 2 ≤ sizeLine; decide), fun t nt => ?_⟩
      refine ⟨rf as, ?_, ?_, ?_⟩
      · rw [upd_ne (ne_of_none hD nt)]; exact hD
      · rw [rf_len, al.len, List.length_take]
        exact sl_small (by omega)
      · have k1 : Tk H2 (upd H2 t (.tup [.int (row.getD (2 * i) 0 : Nat), .int (row.getD (2 * i + 1) 0 : Nat)])) := .new nt
        have k2 : Tk (upd H2 t (.tup [.int (row.getD (2 * i) 0 : Nat), .int (row.getD (2 * i + 1) 0 : Nat)])) (upd (upd H2 t (.tup [.int (row.getD (2 * i) 0 : Nat), .int (row.getD (2 * i + 1) 0 : Nat)])) D (.lst (rf as ++ [.ref t]))) :=
          .lst (by rw [upd_ne (ne_of_none hD nt)]; exact hD)
        refine ⟨same_upd (fun b o e => same_new nt b o (sm b o e)) nD, as ++ [t], by rw [upd_same, rf_snoc], ?_⟩
        rw [prs_take row i i2]
        refine (al.mono fun a b h => (h.keep k1).keep k2).snoc ?_
        exact k2 _ _ upd_same
    · rintro H1 ⟨sm, as, hD, al⟩
      rw [show (prs row).take h = prs row from List.take_of_length_le (by omega)] at al
      exact q H1 D as sm nD hD al
end
end HP

namespace HP
open PySem PySem.Spec PyProof.Rows L2
theorem cut_one (xs : List V) : cutV xs (some 1) none = xs.drop 1 := by
  unfold cutV
  rw [show HT.sIx xs.length 0 (some 1) = min 1 xs.length from HT.sIx_nat xs.length 0 1, HT.sIx_none]
  cases xs with
  | nil => rfl
  | cons x r =>
    rw [show min 1 (x :: r).length = 1 by rw [List.length_cons]; omega]
    show (List.take ((x :: r).length - 1) r) = r
    rw [List.length_cons, Nat.add_sub_cancel]
    exact List.take_length
def okp (n : Nat) (p : Nat × Nat) : Bool := decide (p.1 < p.2) && decide (p.2 < n)
theorem inside_eq (n : Nat) (ps : List (Nat × Nat)) : inside n ps = (ps.map (okp n)).all id := by
  unfold inside; rw [List.all_map]; rfl
def lxs (ps : List (Nat × Nat)) : List Bool := (ps.zip (ps.drop 1)).map fun q => lx q.1 q.2
theorem rising_eq (ps : List (Nat × Nat)) : rising ps = (lxs ps).all id := by
  unfold rising lxs; rw [List.all_map]; rfl
theorem bl_snoc (bs : List Bool) (b : Bool) : bs.map V.bl ++ [V.bl b] = (bs ++ [b]).map V.bl := by rw [List.map_append]; rfl
section
variable {P : Program} {w : World} {K : PySem.W.Frag} {mg : Str → Option Value} {base : Heap} {C fI : Addr}

/-! ### are_edges -/
theorem sc_are_edges : FnScope ["vertex_count", "edges", "pairs", "one", "other", "before", "pair"] ["vertex_count", "edges"] (defScope s_are_edges) := ⟨rfl, rfl, rfl, by decide +kernel, rfl, by decide +kernel, by decide +kernel⟩
def spEdges (K : PySem.W.Frag) : Sp := fun vs H Q _ => ∃ (a : Addr) (n : Nat) (row : List Nat), vs = [.int n, .ref a] ∧ SqL K H a (vn row) ∧ row.length ≤ 100 ∧
  ∀ (H' : Hp), Same H H' → Q (.bl (edgesOk n row)) H'
theorem ok_are_edges (T : Txt K mg C fI) {f : Addr} {fd : FuncData} (F : Fun K "are_edges" "are_edges" s_are_edges f fd) : FnOk P w K mg base CX0 2 f fd ["vertex_count", "edges"] (spEdges K) := by
  obtain ⟨fP, fdP, gP, FP, bP⟩ := T.d_pairs_of
  have GP : FnOk P w K mg base CX0 1 fP fdP ["row"] (spPairs K) := ok_pairs_of T FP
  refine F.ok sc_are_edges (fun vs H Q E h => ?_) (fun cdv A outer s H vs Q E hr h => ?_)
  · obtain ⟨a, n, row, rfl, _⟩ := h
    rfl
  · obtain ⟨a, n, row, rfl, hS, hlen, q⟩ := h
    have nd := sc_are_edges.nd
    refine ⟨_, pss_cons (ps_if (pt_cmpR op_ne (pe_op op_mod (pe_callB call_len_seq (by rfl) T.m_len PySem.boot_len (pa_cons (pv 1) pa_nil)) pe_int) pe_int (nomark _)) (pss_one (ps_ret pe_bl)) pss_nil)
      (pss_cons (ps_set (i := 2) nd rfl (.inl rfl) (pe_call GP hr (by rfl) gP FP.kp bP .nil pass0 (pa_cons (pv 1) pa_nil)))
      (pss_cons (ps_if (pt_not (pt_val (pe_callB (cr_all rfl) (by rfl) T.m_all (by decide +kernel) (pa_cons
          (pe_lc (own := [("one", 3), ("other", 4)]) (g := gTup K 2 (gCons (gName 3) (gCons (gName 4) gNil))) (tt := tYes) (te := tChain (rI0 fun i j => .bl (decide (i < j))) (rI0 fun i j => .bl (decide (i < j))) (tVar 3) (tVar 4) (tVar 0)) rfl nd (pi_list (pv 2))
            (blkOk_by (N := ["vertex_count", "edges", "pairs", "one", "other", "before", "pair"]) (sc := defScope s_are_edges) (by decide +kernel))
            (fun _ _ _ _ _ => pg_tup rfl (pgs_cons (pg_name (i := 3) nd rfl (Or.inl rfl)) (pgs_cons (pg_name (i := 4) nd rfl (Or.inl rfl)) pgs_nil))) (fun _ _ _ _ _ => pts_nil)
            (fun _ _ _ _ _ => pe_chain op_lt op_lt (pv 3) (pv 4) (pv 0))) pa_nil)))) (pss_one (ps_ret pe_bl)) pss_nil)
      (pss_one (ps_ret (pe_callB (cr_all rfl) (by rfl) T.m_all (by decide +kernel) (pa_cons
          (pe_lc (own := [("before", 5), ("pair", 6)]) (g := gTup K 2 (gCons (gName 5) (gCons (gName 6) gNil))) (tt := tYes) (te := tOp (rLtT K) (tVar 5) (tVar 6)) rfl nd
            (pi_zip (by rfl) T.m_zip (pa_cons (pv 2) (pa_cons (pe_slice sl_list (pv 2) (po_some pe_int) po_none) pa_nil)))
            (blkOk_by (N := ["vertex_count", "edges", "pairs", "one", "other", "before", "pair"]) (sc := defScope s_are_edges) (by decide +kernel))
            (fun _ _ _ _ _ => pg_tup rfl (pgs_cons (pg_name (i := 5) nd rfl (Or.inl rfl)) (pgs_cons (pg_name (i := 6) nd rfl (Or.inl rfl)) pgs_nil))) (fun _ _ _ _ _ => pts_nil)
            (fun _ _ _ _ _ => pe_cmpR (op_ltT hr.units0) (pv 5) (pv 6) (nomark _))) pa_nil)))))), ?_⟩
    -- the length
    refine ⟨_, rfl, a, vn row, rfl, .inl hS, _, _, rfl, rfl, (by show (0 : Int) < 2; decide), rfl, _, rfl, ?_⟩
    rw [vn_len]
    by_cases hev : row.length % 2 = 0
    · have e0 : (!decide (V.int (((row.length : Nat) : Int) % 2) = V.int 0)) = false := by
        have e : ((row.length : Nat) : Int) % 2 = 0 := by omega
        rw [e]; simp
      rw [e0]
      refine iteF ?_
      refine ⟨_, rfl, a, row, rfl, hS, hev, hlen, fun H1 p as sm1 np hp al => ?_⟩
      have hlas : as.length = (prs row).length := al.len
      -- the first row of answers
      refine ⟨_, rfl, p, rfl, ⟨_, .of hp⟩, fun D nD => ?_⟩
      refine lc_list (K := K) (a := p) (xs := rf as) (fun i H' => Same H1 H' ∧ H' D = some (.lst ((((prs row).take i).map (okp n)).map V.bl))) ⟨same_new nD, upd_same⟩ (fun i H' _ h => h.1.seq (.of hp)) ?_ ?_
      · rintro i x H' hx ⟨sm, hD⟩
        obtain ⟨t, ht, rfl⟩ := rf_inv hx
        obtain ⟨e, he, pn⟩ := al.get' ht
        have pn' : H' t = some (.tup (vn [e.1, e.2])) := sm _ _ pn
        refine ⟨t, vn [e.1, e.2], rfl, .of pn', rfl, _, _, rfl, _, _, rfl, rfl, rfl, yes_if ?_⟩
        have step : ∃ acc, H' D = some (.lst acc) ∧ acc.length < sizeLine ∧ (Same H1 (upd H' D (.lst (acc ++ [V.bl (okp n e)]))) ∧ upd H' D (.lst (acc ++ [V.bl (okp n e)])) D = some (.lst ((((prs row).take (i + 1)).map (okp n)).map V.bl))) := by
          refine ⟨_, hD, ?_, same_upd sm nD, ?_⟩
          · rw [List.length_map, List.length_map, List.length_take]
            have := prs_len row hev
            exact sl_small (by omega)
          · rw [upd_same, take_more he, bl_snoc]
            simp
        refine ⟨_, rfl, _, rfl, _, _, rfl, rfl, _, rfl, ?_⟩
        by_cases h1 : e.1 < e.2
        · have d1 : decide ((e.1 : Int) < (e.2 : Int)) = true := decide_eq_true (by omega)
          rw [if_pos d1]
          refine ⟨_, rfl, _, _, rfl, rfl, ?_⟩
          have d2 : decide ((e.2 : Int) < (n : Int)) = okp n e := by
            unfold okp
            rw [decide_eq_true h1, Bool.true_and]
            exact decide_eq_decide.mpr (by omega)
          rw [← d2] at step
          exact step
        · have d1 : decide ((e.1 : Int) < (e.2 : Int)) = false := decide_eq_false (by omega)
          rw [if_neg (by rw [d1]; exact Bool.false_ne_true)]
          have d2 : false = okp n e := by
            unfold okp
            rw [decide_eq_false h1, Bool.false_and]
          rw [← d2] at step
          exact step
      · rintro H2 ⟨sm2, hD2⟩
        rw [rf_len, hlas, List.take_length] at hD2
        refine ⟨D, _, rfl, .of hD2, _, rfl, ?_⟩
        rw [← inside_eq]
        cases hin : inside n (prs row) with
        | false =>
          have e : edgesOk n row = false := by
            unfold edgesOk; rw [hin]; simp
          rw [e] at q
          exact iteT (q H2 (sm1.trans sm2))
        | true =>
          refine iteF ?_
          have e : edgesOk n row = (lxs (prs row)).all id := by
            unfold edgesOk; rw [hin, decide_eq_true hev, rising_eq]; simp
          rw [e] at q
          -- the second
          refine ⟨.ref p, rfl, .ref p, rfl, 1, rfl, p, rf as, rfl, sm2.seq (.of hp), fun c nc => ?_⟩
          rw [cut_one]
          have sm3 : Same H2 (upd H2 c (.lst ((rf as).drop 1))) := same_new nc
          refine ⟨p, c, rf as, _, rfl, sm3.seq (sm2.seq (.of hp)), .of upd_same, fun D2 nD2 => ?_⟩
          have hm : min (rf as).length ((rf as).drop 1).length = (lxs (prs row)).length := by
            unfold lxs
            rw [List.length_map, List.length_zip, List.length_drop, List.length_drop, rf_len, hlas]
          refine lc_it (walk_zip (K := K) (a := p) (b := c) (xs := rf as) (ys := (rf as).drop 1) hm.symm) (fun i H' => Same (upd H2 c (.lst ((rf as).drop 1))) H' ∧ H' D2 = some (.lst (((lxs (prs row)).take i).map V.bl))) ⟨same_new nD2, upd_same⟩
            (fun i H' _ h => ⟨h.1.seq (sm3.seq (sm2.seq (.of hp))), h.1.seq (.of upd_same)⟩) ?_ ?_
          · rintro i x H3 H4 hi ⟨sm, hD⟩ ⟨t, x1, y1, rfl, nt, rfl, g1, g2⟩
            have hi' : i < min (prs row).length ((prs row).drop 1).length := by
              unfold lxs at hi
              rw [List.length_map, List.length_zip] at hi
              exact hi
            rw [List.length_drop] at hi'
            obtain ⟨t1, ht1, rfl⟩ := rf_inv g1
            have g2 : ((rf as).drop 1)[i]? = some y1 := g2
            rw [List.getElem?_drop] at g2
            obtain ⟨t2, ht2, rfl⟩ := rf_inv g2
            obtain ⟨e1, he1, pn1⟩ := al.get' ht1
            obtain ⟨e2, he2, pn2⟩ := al.get' ht2
            have smt : Same H3 (upd H3 t (.tup [.ref t1, .ref t2])) := same_new nt
            have smA : Same H1 (upd H3 t (.tup [.ref t1, .ref t2])) := sm2.trans (sm3.trans (sm.trans smt))
            have pn1' : (upd H3 t (.tup [.ref t1, .ref t2])) t1 = some (.tup (vn [e1.1, e1.2])) := smA _ _ pn1
            have pn2' : (upd H3 t (.tup [.ref t1, .ref t2])) t2 = some (.tup (vn [e2.1, e2.2])) := smA _ _ pn2
            have hD' : (upd H3 t (.tup [.ref t1, .ref t2])) D2 = some (.lst (((lxs (prs row)).take i).map V.bl)) := smt _ _ hD
            have hl : (lxs (prs row))[i]? = some (lx e1 e2) := by
              unfold lxs
              have hz : ((prs row).zip ((prs row).drop 1))[i]? = some (e1, e2) := List.getElem?_zip_eq_some.mpr ⟨he1, (List.getElem?_drop).trans he2⟩
              rw [List.getElem?_map, hz]
              rfl
            refine ⟨t, _, rfl, .of upd_same, rfl, _, _, rfl, _, _, rfl, rfl, rfl, yes_if ?_⟩
            refine ⟨_, rfl, _, rfl, t1, t2, [(e1.1 : Int), (e1.2 : Int)], [(e2.1 : Int), (e2.2 : Int)], rfl, rfl, .of pn1', .of pn2', ?_⟩
            rw [lexLt_pair]
            refine ⟨_, hD', ?_, same_upd (sm.trans smt) nD2, ?_⟩
            · rw [List.length_map, List.length_take]
              have := prs_len row hev
              exact sl_small (by omega)
            · rw [upd_same, take_more hl, bl_snoc]
          · rintro H3 ⟨sm, hD⟩
            rw [List.take_length] at hD
            exact ⟨D2, _, rfl, .of hD, q H3 (sm1.trans (sm2.trans (sm3.trans sm)))⟩
    · have e0 : (!decide (V.int (((row.length : Nat) : Int) % 2) = V.int 0)) = true := by
        have e : ((row.length : Nat) : Int) % 2 ≠ 0 := by omega
        simp [e]
      rw [e0]
      refine iteT ?_
      have e : edgesOk n row = false := by
        unfold edgesOk; rw [decide_eq_false hev]; simp
      rw [e] at q
      exact q H (Same.refl H)
end
end HP

namespace HP
open PySem PySem.Spec PyProof.Rows L2
open Ks577 (Graph)
theorem lows_snoc (l : List (Nat × Nat)) (e : Nat × Nat) (v : Nat) : lows (l ++ [e]) v = lows l v ++ if e.2 = v then [e.1] else [] := by
  unfold lows
  rw [List.filter_append, List.map_append]
  by_cases h : e.2 = v <;> simp [h]
theorem highs_snoc (l : List (Nat × Nat)) (e : Nat × Nat) (v : Nat) : highs (l ++ [e]) v = highs l v ++ if e.1 = v then [e.2] else [] := by
  unfold highs
  rw [List.filter_append, List.map_append]
  by_cases h : e.1 = v <;> simp [h]
theorem lows_len (l : List (Nat × Nat)) (v : Nat) : (lows l v).length ≤ l.length := by
  unfold lows; rw [List.length_map]; exact List.length_filter_le ..
theorem highs_len (l : List (Nat × Nat)) (v : Nat) : (highs l v).length ≤ l.length := by
  unfold highs; rw [List.length_map]; exact List.length_filter_le ..
/-- at g: the graph, a tuple of the tuples of neighbours -/
def GraphAt (H : Hp) (g : Addr) (G : Graph) : Prop := ∃ as : List Addr, H g = some (.tup (rf as)) ∧ Al (TupN H) as ((List.range G.vertexCount).map (nb G))
theorem GraphAt.keep {H H' : Hp} {g : Addr} {G : Graph} (k : Tk H H') (h : GraphAt H g G) : GraphAt H' g G := by
  obtain ⟨as, h1, h2⟩ := h
  exact ⟨as, k _ _ h1, h2.mono fun a b q => q.keep k⟩
theorem GraphAt.len {H : Hp} {g : Addr} {G : Graph} (h : GraphAt H g G) : ∃ as : List Addr, H g = some (.tup (rf as)) ∧ (rf as).length = G.vertexCount ∧ Al (TupN H) as ((List.range G.vertexCount).map (nb G)) := by
  obtain ⟨as, h1, h2⟩ := h
  exact ⟨as, h1, by rw [rf_len, h2.len, List.length_map, List.length_range], h2⟩
/-- the neighbours of one vertex -/
theorem GraphAt.at {H : Hp} {g : Addr} {G : Graph} (h : GraphAt H g G) {v : Nat} (hv : v < G.vertexCount) : ∃ (xs : List V) (a : Addr), H g = some (.tup xs) ∧ xs[v]? = some (.ref a) ∧ TupN H a (nb G v) := by
  obtain ⟨as, h1, h2⟩ := h
  have e : ((List.range G.vertexCount).map (nb G))[v]? = some (nb G v) := by
    rw [List.getElem?_map, List.getElem?_range hv]; rfl
  obtain ⟨a, ha, t⟩ := h2.get e
  exact ⟨rf as, a, h1, rf_at ha, t⟩
theorem RefE.mono {C : Addr} {H H1 : Hp} {c : Int} {E : XK} (s : Same H H1) (h : RefE C H c E) : RefE C H1 c E := fun d H' k e => h d H' (s.trans k) e
theorem ifb {b : Bool} {A B : Prop} (h1 : b = true → A) (h0 : b = false → B) : if b = true then A else B := by
  cases b with
  | true => rw [if_pos rfl]; exact h1 rfl
  | false => rw [if_neg Bool.false_ne_true]; exact h0 rfl
theorem ifd {p : Prop} [Decidable p] {A B : Prop} (h1 : p → A) (h0 : ¬ p → B) : if decide p = true then A else B := by
  by_cases h : p
  · rw [if_pos (decide_eq_true h)]; exact h1 h
  · rw [if_neg (by rw [decide_eq_false h]; exact Bool.false_ne_true)]; exact h0 h
theorem int_eq {a b : Nat} (h : V.int (a : Int) = V.int (b : Int)) : a = b := by
  injection h with h; omega
section
variable {P : Program} {w : World} {K : PySem.W.Frag} {mg : Str → Option Value} {base : Heap} {C fI : Addr}

/-! ### neighbours_of -/
theorem sc_neighbours_of : FnScope ["vertex", "pairs", "lower", "upper", "one", "other"] ["vertex", "pairs"] (defScope s_neighbours_of) := ⟨rfl, rfl, rfl, by decide +kernel, rfl, by decide +kernel, by decide +kernel⟩
def spNbrs : Sp := fun vs H Q _ => ∃ (v : Nat) (p : Addr) (as : List Addr) (ps : List (Nat × Nat)), vs = [.int v, .ref p] ∧ H p = some (.lst (rf as)) ∧ Al (PairN H) as ps ∧ ps.length ≤ 100 ∧
  ∀ (H' : Hp) (t : Addr), Same H H' → H t = none → TupN H' t (lows ps v ++ highs ps v) → Q (.ref t) H'
theorem ok_neighbours_of (T : Txt K mg C fI) {f : Addr} {fd : FuncData} (F : Fun K "neighbours_of" "neighbours_of" s_neighbours_of f fd) : FnOk P w K mg base CX0 1 f fd ["vertex", "pairs"] spNbrs := by
  refine F.ok sc_neighbours_of (fun vs H Q E h => ?_) (fun cdv A outer s H vs Q E hr h => ?_)
  · obtain ⟨v, p, as, ps, rfl, _⟩ := h
    rfl
  · obtain ⟨v, p, as, ps, rfl, hp, al, hlen, q⟩ := h
    have nd := sc_neighbours_of.nd
    refine ⟨_, pss_cons (ps_setLc (i := 2) (own := [("one", 4), ("other", 5)]) (g := gTup K 2 (gCons (gName 4) (gCons (gName 5) gNil))) (tt := tTest (tOp rEq (tVar 5) (tVar 0))) (te := tVar 4) rfl nd rfl rfl (sw_true rfl rfl rfl (by decide +kernel)) (pi_list (pv 1))
          (blkOk_by (N := ["vertex", "pairs", "lower", "upper", "one", "other"]) (sc := defScope s_neighbours_of) (by decide +kernel))
          (fun _ _ _ _ _ => pg_tup rfl (pgs_cons (pg_name (i := 4) nd rfl (Or.inl rfl)) (pgs_cons (pg_name (i := 5) nd rfl (Or.inl rfl)) pgs_nil)))
          (fun _ _ _ _ _ => pts_one (pt_cmpR op_eq (pv 5) (pv 0) (nomark _))) (fun _ _ _ _ _ => pv 4))
      (pss_cons (ps_setLc (i := 3) (own := [("one", 4), ("other", 5)]) (g := gTup K 2 (gCons (gName 4) (gCons (gName 5) gNil))) (tt := tTest (tOp rEq (tVar 4) (tVar 0))) (te := tVar 5) rfl nd rfl rfl (sw_true rfl rfl rfl (by decide +kernel)) (pi_list (pv 1))
          (blkOk_by (N := ["vertex", "pairs", "lower", "upper", "one", "other"]) (sc := defScope s_neighbours_of) (by decide +kernel))
          (fun _ _ _ _ _ => pg_tup rfl (pgs_cons (pg_name (i := 4) nd rfl (Or.inl rfl)) (pgs_cons (pg_name (i := 5) nd rfl (Or.inl rfl)) pgs_nil)))
          (fun _ _ _ _ _ => pts_one (pt_cmpR op_eq (pv 4) (pv 0) (nomark _))) (fun _ _ _ _ _ => pv 5))
      (pss_one (ps_ret (pe_callTy call_tuple_of (by rfl) T.m_tuple (by decide +kernel) (pa_cons (pe_op op_cat (pv 2) (pv 3)) pa_nil))))), ?_⟩
    -- lower
    refine ⟨_, rfl, p, rfl, ⟨_, .of hp⟩, fun D nD => ?_⟩
    refine lc_list (K := K) (a := p) (xs := rf as) (fun i H' => Same H H' ∧ H' D = some (.lst (vn (lows (ps.take i) v)))) ⟨same_new nD, upd_same⟩ (fun i H' _ h => h.1.seq (.of hp)) ?_ ?_
    · rintro i x H' hx ⟨sm, hD⟩
      obtain ⟨t, ht, rfl⟩ := rf_inv hx
      obtain ⟨e, he, pn⟩ := al.get' ht
      have pn' : H' t = some (.tup (vn [e.1, e.2])) := sm _ _ pn
      refine ⟨t, vn [e.1, e.2], rfl, .of pn', rfl, _, _, rfl, _, _, rfl, rfl, rfl, _, rfl, _, rfl, rfl, _, rfl, ?_⟩
      have hl : (vn (lows (ps.take i) v)).length < sizeLine := by
        rw [vn_len]
        have := lows_len (ps.take i) v
        rw [List.length_take] at this
        exact sl_small (by omega)
      refine ifd (fun c0 => ?_) (fun c0 => ?_)
      · have c : e.2 = v := int_eq c0
        refine ⟨_, rfl, _, hD, hl, same_upd sm nD, ?_⟩
        rw [upd_same, take_more he, lows_snoc, if_pos c, vn_snoc]
      · have c : ¬ e.2 = v := fun z => c0 (congrArg (fun k : Nat => V.int (k : Int)) z)
        refine ⟨sm, ?_⟩
        rw [hD, take_more he, lows_snoc, if_neg c, List.append_nil]
    · rintro H1 ⟨sm1, hD1⟩
      rw [rf_len, al.len, List.take_length] at hD1
      have nD0 : H D = none := nD
      -- upper
      refine ⟨_, rfl, p, rfl, ⟨_, sm1.seq (.of hp)⟩, fun D2 nD2 => ?_⟩
      refine lc_list (K := K) (a := p) (xs := rf as) (fun i H' => Same H1 H' ∧ H' D2 = some (.lst (vn (highs (ps.take i) v)))) ⟨same_new nD2, upd_same⟩ (fun i H' _ h => h.1.seq (sm1.seq (.of hp))) ?_ ?_
      · rintro i x H' hx ⟨sm, hD⟩
        obtain ⟨t, ht, rfl⟩ := rf_inv hx
        obtain ⟨e, he, pn⟩ := al.get' ht
        have pn' : H' t = some (.tup (vn [e.1, e.2])) := sm _ _ (sm1 _ _ pn)
        refine ⟨t, vn [e.1, e.2], rfl, .of pn', rfl, _, _, rfl, _, _, rfl, rfl, rfl, _, rfl, _, rfl, rfl, _, rfl, ?_⟩
        have hl : (vn (highs (ps.take i) v)).length < sizeLine := by
          rw [vn_len]
          have := highs_len (ps.take i) v
          rw [List.length_take] at this
          exact sl_small (by omega)
        refine ifd (fun c0 => ?_) (fun c0 => ?_)
        · have c : e.1 = v := int_eq c0
          refine ⟨_, rfl, _, hD, hl, same_upd sm nD2, ?_⟩
          rw [upd_same, take_more he, highs_snoc, if_pos c, vn_snoc]
        · have c : ¬ e.1 = v := fun z => c0 (congrArg (fun k : Nat => V.int (k : Int)) z)
          refine ⟨sm, ?_⟩
          rw [hD, take_more he, highs_snoc, if_neg c, List.append_nil]
      · rintro H2 ⟨sm2, hD2⟩
        rw [rf_len, al.len, List.take_length] at hD2
        have hD1' := sm2 _ _ hD1
        refine ⟨_, rfl, _, rfl, D, D2, _, _, rfl, rfl, hD1', hD2, ?_, fun l nl => ?_⟩
        · rw [vn_len, vn_len]
          have := lows_len ps v
          have := highs_len ps v
          exact sl_le (by omega)
        · refine ⟨l, _, rfl, .inl ⟨.of upd_same, fun t nt => ?_⟩⟩
          have s3 : Same H2 (upd H2 l (.lst (vn (lows ps v) ++ vn (highs ps v)))) := same_new nl
          have s4 : Same H (upd (upd H2 l (.lst (vn (lows ps v) ++ vn (highs ps v)))) t (.tup (vn (lows ps v) ++ vn (highs ps v)))) := (sm1.trans (sm2.trans s3)).trans (same_new nt)
          refine q _ t s4 ((sm1.trans (sm2.trans s3)).free nt) ?_
          unfold TupN
          rw [upd_same, vn_app]

/-! ### read_graph -/
theorem sc_read_graph : FnScope ["vertex_count", "edges", "pairs", "vertex"] ["vertex_count", "edges"] (defScope s_read_graph) := ⟨rfl, rfl, rfl, by decide +kernel, rfl, by decide +kernel, by decide +kernel⟩
def Asked (n : Nat) (row : List Nat) : Prop := 1 ≤ n ∧ n ≤ 5 ∧ edgesOk n row = true
instance (n : Nat) (row : List Nat) : Decidable (Asked n row) := inferInstanceAs (Decidable (1 ≤ n ∧ n ≤ 5 ∧ edgesOk n row = true))
def spGraph (K : PySem.W.Frag) (C : Addr) : Sp := fun vs H Q E => ∃ (n : Nat) (a : Addr) (row : List Nat), vs = [.int n, .ref a] ∧ SqL K H a (vn row) ∧ row.length ≤ 100 ∧
  (¬ Asked n row → RefE C H (-22) E) ∧ (Asked n row → ∀ (H' : Hp) (g : Addr), Same H H' → GraphAt H' g ⟨n, prs row⟩ → Q (.ref g) H')
theorem ok_read_graph (T : Txt K mg C fI) {f : Addr} {fd : FuncData} (F : Fun K "read_graph" "read_graph" s_read_graph f fd) : FnOk P w K mg base (L2.CX P w) 4 f fd ["vertex_count", "edges"] (spGraph K C) := by
  obtain ⟨fP, fdP, gP, FP, bP⟩ := T.d_pairs_of
  have GP : FnOk P w K mg base CX0 1 fP fdP ["row"] (spPairs K) := ok_pairs_of T FP
  obtain ⟨fE, fdE, gE, FE, bE⟩ := T.d_are_edges
  have GE : FnOk P w K mg base CX0 2 fE fdE ["vertex_count", "edges"] (spEdges K) := ok_are_edges T FE
  obtain ⟨fB, fdB, gB, FB, bB⟩ := T.d_neighbours_of
  have GB : FnOk P w K mg base CX0 1 fB fdB ["vertex", "pairs"] spNbrs := ok_neighbours_of T FB
  obtain ⟨fN, fdN, gN, FN, bN⟩ := T.d_need
  have GN : FnOk P w K mg base (L2.CX P w) 3 fN fdN ["truth", "code"] (spNeed C) := ok_need T.rk T.m_ValueError FN
  obtain ⟨tk1, k1⟩ := T.c_MOST_VERTICES
  obtain ⟨tk2, k2⟩ := T.c_OUT_OF_LIMITS
  refine F.okX sc_read_graph (fun vs H Q E h => ?_) (fun cdv A outer s H vs Q E hr h => ?_)
  · obtain ⟨n, a, row, rfl, _⟩ := h
    rfl
  · obtain ⟨n, a, row, rfl, hS, hlen, qb, qg⟩ := h
    have nd := sc_read_graph.nd
    have hr1 : Room 1 _ := hr.mono (by decide)
    have hr2 : Room 2 _ := hr.mono (by decide)
    refine ⟨_, pss_cons (ps_expr (pe_call GN hr (by rfl) gN FN.kp bN .nil (passes_call (takes_of rfl rfl rfl rfl) (fun _ _ _ _ h => h))
        (pa_cons (pe_and (pe_chain op_le op_le pe_int (pv 0) (pe_glob (v := .int 5) (by rfl) k1 ⟨_, rfl⟩)) (pe_one (pe_call GE hr2 (by rfl) gE FE.kp bE .nil pass0 (pa_cons (pv 0) (pa_cons (pv 1) pa_nil))))) (pa_cons (pe_glob (v := .int (-22)) (by rfl) k2 ⟨_, rfl⟩) pa_nil))))
      (pss_cons (ps_set (i := 2) nd rfl (.inr rfl) (pe_call GP hr1 (by rfl) gP FP.kp bP .nil pass0 (pa_cons (pv 1) pa_nil)))
      (pss_one (ps_ret (pe_callTy call_tuple_of (by rfl) T.m_tuple (by decide +kernel) (pa_cons
        (pe_lc (own := [("vertex", 3)]) (g := gName 3) (tt := tYes) (te := tCall spNbrs [] E0 (tCons (tVar 3) (tCons (tVar 2) tNil))) rfl nd (pi_range1 (by rfl) T.m_range (pa_cons (pv 0) pa_nil))
          (blkOk_by (N := ["vertex_count", "edges", "pairs", "vertex"]) (sc := defScope s_read_graph) (by decide +kernel))
          (fun _ _ _ _ _ => pg_name (i := 3) nd rfl (Or.inl rfl)) (fun _ _ _ _ _ => pts_nil)
          (fun _ _ _ _ _ => pe_call GB hr1 (by rfl) gB FB.kp bB .nil pass0 (pa_cons (pv 3) (pa_cons (pv 2) pa_nil)))) pa_nil))))), ?_⟩
    -- the tests
    refine ⟨_, rfl, _, _, rfl, rfl, _, rfl, ?_⟩
    by_cases h1 : 1 ≤ n
    · rw [if_pos (decide_eq_true (by omega))]
      refine ⟨(n : Int), 5, rfl, rfl, _, rfl, ?_⟩
      by_cases h2 : n ≤ 5
      · rw [if_pos (decide_eq_true (by omega))]
        refine ⟨_, rfl, _, rfl, a, n, row, rfl, hS, hlen, fun H1 sm1 => ?_⟩
        cases he : edgesOk n row with
        | false => exact ⟨false, -22, rfl, fun z => (nomatch z), fun _ => (qb (fun z => by rw [z.2.2] at he; cases he)).mono sm1⟩
        | true =>
          have hA : Asked n row := ⟨h1, h2, he⟩
          have hG : Good ⟨n, prs row⟩ := good_of h1 h2 he
          have hev : row.length % 2 = 0 := by
            unfold edgesOk at he
            simp only [Bool.and_eq_true, decide_eq_true_eq] at he
            exact he.1
          refine ⟨true, -22, rfl, fun _ => ?_, fun z => nomatch z⟩
          refine ⟨_, rfl, a, row, rfl, sm1.seq hS, hev, hlen, fun H2 p as sm2 np hp al => ?_⟩
          have hpl : (prs row).length ≤ 100 := by have := prs_len row hev; omega
          refine ⟨_, rfl, n, rfl, by omega, by omega, fun D nD => ?_⟩
          refine lc_range (lo := 0) (n := n) (fun i H' => Same H2 H' ∧ ∃ bs, H' D = some (.lst (rf bs)) ∧ Al (TupN H') bs (((List.range n).map (nb ⟨n, prs row⟩)).take i)) ⟨same_new nD, [], upd_same, .nil⟩ ?_ ?_
          · rintro i H' hi ⟨sm, bs, hD, alb⟩
            have hi' : i < n := hi
            refine ⟨rfl, yes_if ?_⟩
            refine ⟨_, rfl, _, rfl, i, p, as, prs row, ?_, sm _ _ hp, al.mono (fun _ _ z => z.keep (.same sm)), hpl, fun H3 t sm3 nt ht => ?_⟩
            · show [V.int (0 + (i : Int)), V.ref p] = _
              rw [Int.zero_add]
            · rw [nb_eq hG i] at ht
              have hD3 : H3 D = some (.lst (rf bs)) := sm3 _ _ hD
              have ei : ((List.range n).map (nb ⟨n, prs row⟩))[i]? = some (nb ⟨n, prs row⟩ i) := by
                rw [List.getElem?_map, List.getElem?_range hi']; rfl
              refine ⟨_, hD3, ?_, same_upd (sm.trans sm3) nD, bs ++ [t], by rw [upd_same, rf_snoc], ?_⟩
              · rw [rf_len, alb.len, List.length_take]
                exact sl_small (by omega)
              · rw [take_more ei]
                exact (alb.mono fun _ _ z => (z.keep (.same sm3)).keep (.lst hD3)).snoc (ht.keep (.lst hD3))
          · rintro H3 ⟨sm3, bs, hD, alb⟩
            rw [List.take_of_length_le (by rw [List.length_map, List.length_range]; exact Nat.le_refl _)] at alb
            refine ⟨D, _, rfl, .inl ⟨.of hD, fun t nt => ?_⟩⟩
            exact qg hA _ t (sm1.trans (sm2.trans (sm3.trans (same_new nt)))) ⟨bs, upd_same, alb.mono fun _ _ z => z.keep (.new nt)⟩
      · rw [if_neg (by intro z; have := of_decide_eq_true z; omega)]
        exact ⟨false, -22, rfl, fun z => (nomatch z), fun _ => qb (fun z => h2 z.2.1)⟩
    · rw [if_neg (by intro z; have := of_decide_eq_true z; omega)]
      refine ⟨false, rfl, ?_⟩
      rw [if_neg Bool.false_ne_true]
      exact ⟨false, -22, rfl, fun z => (nomatch z), fun _ => qb (fun z => h1 z.1)⟩

/-! ### read_pebbles -/
theorem sc_read_pebbles : FnScope ["graph", "pebbles"] ["graph", "pebbles"] (defScope s_read_pebbles) := ⟨rfl, rfl, rfl, by decide +kernel, rfl, by decide +kernel, by decide +kernel⟩
def spPebbles (K : PySem.W.Frag) (C : Addr) : Sp := fun vs H Q E => ∃ (g b : Addr) (G : Graph) (peb : List Nat), vs = [.ref g, .ref b] ∧ GraphAt H g G ∧ SqL K H b (vn peb) ∧
  (¬ (peb.length = G.vertexCount ∧ peb.sum ≤ 12) → RefE C H (-22) E) ∧ ((peb.length = G.vertexCount ∧ peb.sum ≤ 12) → ∀ (H' : Hp) (c : Addr), Same H H' → TupN H' c peb → Q (.ref c) H')
theorem ok_read_pebbles (T : Txt K mg C fI) {f : Addr} {fd : FuncData} (F : Fun K "read_pebbles" "read_pebbles" s_read_pebbles f fd) : FnOk P w K mg base (L2.CX P w) 4 f fd ["graph", "pebbles"] (spPebbles K C) := by
  obtain ⟨fN, fdN, gN, FN, bN⟩ := T.d_need
  have GN : FnOk P w K mg base (L2.CX P w) 3 fN fdN ["truth", "code"] (spNeed C) := ok_need T.rk T.m_ValueError FN
  obtain ⟨tk1, k1⟩ := T.c_MOST_PEBBLES
  obtain ⟨tk2, k2⟩ := T.c_OUT_OF_LIMITS
  refine F.okX sc_read_pebbles (fun vs H Q E h => ?_) (fun cdv A outer s H vs Q E hr h => ?_)
  · obtain ⟨n, a, G, row, rfl, _⟩ := h
    rfl
  · obtain ⟨g, b, G, peb, rfl, hG, hS, qb, qg⟩ := h
    have nd := sc_read_pebbles.nd
    refine ⟨_, pss_cons (ps_expr (pe_call GN hr (by rfl) gN FN.kp bN .nil (passes_call (takes_of rfl rfl rfl rfl) (fun _ _ _ _ h => h))
        (pa_cons (pe_and (pe_cmpR op_eq (pe_callB call_len_seq (by rfl) T.m_len PySem.boot_len (pa_cons (pv 1) pa_nil)) (pe_callB call_len_seq (by rfl) T.m_len PySem.boot_len (pa_cons (pv 0) pa_nil)) (nomark _))
            (pe_one (pe_cmpR op_le (pe_callB (cr_sum rfl) (by rfl) T.m_sum (by decide +kernel) (pa_cons (pv 1) pa_nil)) (pe_glob (v := .int 12) (by rfl) k1 ⟨_, rfl⟩) (nomark _)))) (pa_cons (pe_glob (v := .int (-22)) (by rfl) k2 ⟨_, rfl⟩) pa_nil))))
      (pss_one (ps_ret (pe_callTy call_tuple_of (by rfl) T.m_tuple (by decide +kernel) (pa_cons (pv 1) pa_nil)))), ?_⟩
    obtain ⟨as, hg, hgl, _⟩ := hG.len
    refine ⟨_, rfl, b, vn peb, rfl, .inl hS, _, rfl, g, rf as, rfl, .inr (.of hg), rfl, _, rfl, ?_⟩
    rw [vn_len, hgl]
    by_cases h1 : peb.length = G.vertexCount
    · rw [if_pos (decide_eq_true (by rw [h1]))]
      refine ⟨_, rfl, b, nis peb, rfl, by rw [← vn_nis]; exact hS, _, _, rfl, rfl, ?_⟩
      refine ⟨decide ((nis peb).sum ≤ 12), -22, rfl, fun z => ?_, fun z => ?_⟩
      · have h2 : peb.sum ≤ 12 := by have := of_decide_eq_true z; rw [nis_sum] at this; omega
        refine ⟨_, rfl, b, vn peb, rfl, .inl ⟨hS, fun t nt => ?_⟩⟩
        exact qg ⟨h1, h2⟩ _ t (same_new nt) upd_same
      · refine qb fun y => ?_
        have := of_decide_eq_false z
        rw [nis_sum] at this
        have := y.2
        omega
    · rw [if_neg (by intro z; have z1 := of_decide_eq_true z; injection z1 with z2; exact h1 (by omega))]
      exact ⟨false, -22, rfl, fun z => (nomatch z), fun _ => qb (fun z => h1 z.1)⟩
end
end HP

namespace HP
open PySem PySem.Spec PyProof.Rows L2
open Ks577 (Graph pebblesAt)
theorem ixN_at {n i : Nat} (h : i < n) : ixN n (i : Int) = some i := by
  unfold ixN
  rw [if_pos (by omega), if_pos (by omega)]
  simp
theorem vn_set (l : List Nat) (i x : Nat) : (vn l).set i (.int (x : Int)) = vn (l.set i x) := by
  unfold vn; rw [List.map_set]
section
variable {P : Program} {w : World} {K : PySem.W.Frag} {mg : Str → Option Value} {base : Heap} {C fI : Addr}

/-! ### moved -/
theorem sc_moved : FnScope ["configuration", "source", "target", "found"] ["configuration", "source", "target"] (defScope s_moved) := ⟨rfl, rfl, rfl, by decide +kernel, rfl, by decide +kernel, by decide +kernel⟩
def spMoved : Sp := fun vs H Q _ => ∃ (c : Addr) (s t : Nat) (l : List Nat), vs = [.ref c, .int s, .int t] ∧ TupN H c l ∧ s < l.length ∧ t < l.length ∧ 2 ≤ l.getD s 0 ∧
  ∀ (H' : Hp) (p : Addr), Same H H' → H p = none → TupN H' p (Ks577.move l s t) → Q (.ref p) H'
theorem ok_moved (T : Txt K mg C fI) {f : Addr} {fd : FuncData} (F : Fun K "moved" "moved" s_moved f fd) : FnOk P w K mg base CX0 1 f fd ["configuration", "source", "target"] spMoved := by
  obtain ⟨tk1, k1⟩ := T.c_COST
  refine F.ok sc_moved (fun vs H Q E h => ?_) (fun cdv A outer s0 H vs Q E hr h => ?_)
  · obtain ⟨c, s, t, l, rfl, _⟩ := h
    rfl
  · obtain ⟨c, s, t, l, rfl, hc, hs, ht, h2, q⟩ := h
    have nd := sc_moved.nd
    refine ⟨_, pss_cons (ps_set (i := 3) nd rfl (.inl rfl) (pe_callTy call_list_of (by rfl) T.m_list (by decide +kernel) (pa_cons (pv 0) pa_nil)))
      (pss_cons (ps_asg (pe_op op_sub (pe_ix ix_list (pv 3) (pv 1) (fun _ _ => rfl)) (pe_glob (v := .int 2) (by rfl) k1 ⟨_, rfl⟩)) (pg_sub (pv 3) (pv 1) set_list))
      (pss_cons (ps_asg (pe_op op_add (pe_ix ix_list (pv 3) (pv 2) (fun _ _ => rfl)) pe_int) (pg_sub (pv 3) (pv 2) set_list))
      (pss_one (ps_ret (pe_callTy call_tuple_of (by rfl) T.m_tuple (by decide +kernel) (pa_cons (pv 3) pa_nil)))))), ?_⟩
    refine ⟨_, rfl, c, vn l, rfl, .inr (.of hc), fun D nD => ?_⟩
    -- found[source] = found[source] - COST
    refine ⟨.ref D, rfl, .int s, rfl, D, vn l, s, _, rfl, rfl, .of upd_same, atI_at (vn_atD hs), _, _, rfl, rfl, ?_⟩
    refine ⟨.ref D, rfl, .int s, rfl, D, vn l, s, s, rfl, rfl, upd_same, by rw [vn_len]; exact ixN_at hs, ?_⟩
    dsimp only
    rw [show ((l.getD s 0 : Nat) : Int) - 2 = ((l.getD s 0 - 2 : Nat) : Int) by omega, vn_set, upd_upd]
    -- found[target] = found[target] + 1
    have ht' : t < (l.set s (l.getD s 0 - 2)).length := by rw [List.length_set]; exact ht
    refine ⟨.ref D, rfl, .int t, rfl, D, vn (l.set s (l.getD s 0 - 2)), t, _, rfl, rfl, .of upd_same, atI_at (vn_atD ht'), _, _, rfl, rfl, ?_⟩
    refine ⟨.ref D, rfl, .int t, rfl, D, vn (l.set s (l.getD s 0 - 2)), t, t, rfl, rfl, upd_same, by rw [vn_len]; exact ixN_at ht', ?_⟩
    dsimp only
    rw [show (((l.set s (l.getD s 0 - 2)).getD t 0 : Nat) : Int) + 1 = (((l.set s (l.getD s 0 - 2)).getD t 0 + 1 : Nat) : Int) by omega, vn_set, upd_upd]
    refine ⟨_, rfl, D, _, rfl, .inl ⟨.of upd_same, fun p np => ?_⟩⟩
    have s1 : Same H (upd H D (.lst (vn ((l.set s (l.getD s 0 - 2)).set t ((l.set s (l.getD s 0 - 2)).getD t 0 + 1))))) := same_new nD
    exact q _ p (s1.trans (same_new np)) (s1.free np) upd_same
end
end HP

namespace HP
open PySem PySem.Spec PyProof.Rows L2
open Ks577 (Graph)
/-! ### what is due -/
theorem parseGraph_eq (n : Nat) (es : List Nat) : Ks577.parseGraph n es = if Asked n es then some ⟨n, prs es⟩ else none := by
  unfold Ks577.parseGraph
  have hm : Ks577.maxVertices = 5 := rfl
  rw [hm, parse_eq]
  by_cases h : n < 1 ∨ 5 < n
  · rw [if_pos h, if_neg]
    rintro ⟨h1, h2, _⟩
    omega
  · rw [if_neg h]
    by_cases h3 : edgesOk n es = true
    · rw [if_pos h3, if_pos ⟨by omega, by omega, h3⟩]; rfl
    · rw [if_neg h3, if_neg (fun z => h3 z.2.2)]; rfl
def Fits (n : Nat) (es peb : List Nat) : Prop := Asked n es ∧ peb.length = n ∧ peb.sum ≤ 12
instance (n : Nat) (es peb : List Nat) : Decidable (Fits n es peb) := inferInstanceAs (Decidable (Asked n es ∧ peb.length = n ∧ peb.sum ≤ 12))
theorem withConf_eq (n : Nat) (es peb : List Nat) (f : Graph → List Nat → Ks577.Result) : Ks577.withConfiguration n es peb f = if Fits n es peb then f ⟨n, prs es⟩ peb else Ks577.number (-22) := by
  unfold Ks577.withConfiguration Ks577.withGraph
  rw [parseGraph_eq]
  by_cases h : Asked n es
  · rw [if_pos h]
    show (if Ks577.isValidConfiguration ⟨n, prs es⟩ peb = true then _ else _) = _
    have e : Ks577.isValidConfiguration ⟨n, prs es⟩ peb = true ↔ peb.length = n ∧ peb.sum ≤ 12 := by
      unfold Ks577.isValidConfiguration
      have hm : Ks577.maxPebbles = 12 := rfl
      rw [hm, Bool.and_eq_true, beq_iff_eq, decide_eq_true_iff]
    by_cases h2 : peb.length = n ∧ peb.sum ≤ 12
    · rw [if_pos (e.mpr h2), if_pos ⟨h, h2⟩]
    · rw [if_neg (fun z => h2 (e.mp z)), if_neg (fun z => h2 z.2)]
  · rw [if_neg h, if_neg (fun z => h z.1)]
abbrev told (c : Ks577.Call) : List Int := Ks577Neutral.integers (Ks577.answer c)
/-- whole numbers from 0 on as naturals -/
def nats (zs : List Int) : List Nat := zs.map Int.toNat
theorem vn_nats {zs : List Int} (h : ∀ z ∈ zs, 0 ≤ z) : vn (nats zs) = zs.map V.int := by
  unfold vn nats
  rw [List.map_map]
  apply List.map_congr_left
  intro z hz
  show V.int ((z.toNat : Nat) : Int) = V.int z
  rw [Int.toNat_of_nonneg (h z hz)]
theorem nats_len (zs : List Int) : (nats zs).length = zs.length := List.length_map _
theorem in_nonneg {z : Int} {hi : Int} (h : PySem.W.Codec.inInt 0 hi z = true) : 0 ≤ z := by
  unfold PySem.W.Codec.inInt at h
  simp only [Bool.and_eq_true, decide_eq_true_eq] at h
  exact h.1
theorem all_nonneg {zs : List Int} {hi : Int} (h : zs.all (PySem.W.Codec.inInt 0 hi) = true) : ∀ z ∈ zs, 0 ≤ z := fun z hz => in_nonneg (List.all_eq_true.mp h z hz)
/-- what is asked of a def that gives out the answer R or refuses -/
def Told (C : Addr) (H : Hp) (R : List Int) (Q : VK) (E : XK) : Prop := (∀ c : Int, R = [c] → RefE C H c E) ∧ ∀ (H' : Hp) (t : Addr), Same H H' → H' t = some (.lst (R.map V.int)) → Q (.ref t) H'
/-- .. of one that lets nothing out -/
def Gives (R : List Int) (Q : VK) : Prop := ∀ (H' : Hp) (t : Addr), H' t = some (.lst (R.map V.int)) → Q (.ref t) H'
theorem RefE.back {C : Addr} {H : Hp} {c : Int} {E : XK} {H1 : Hp} (s : Same H H1) (h : RefE C H c E) : RefE C H1 c E := h.mono s
/-- an error of the class at S is what «except S» names -/
theorem exm_self {K : PySem.W.Frag} {S : Addr} (h1 : PySem.W.subIn K (.ref S) (.type "BaseException") = some true) (h2 : PySem.W.isClsIn K S = true) (h3 : PySem.W.typeIn K (.ref S) = some (.type "type")) (h4 : PySem.W.subIn K (.ref S) (.ref S) = some true) :
    PySem.W.exmOne K (.ref S) (.ref S) = some true := by
  have e1 : (PySem.W.subIn K (.ref S) (.type "BaseException") == some true) = true := by rw [h1] <;> rfl
  have e2 : ((PySem.W.clsIn K S).isSome && PySem.W.typeIn K (.ref S) == some (.type "type")) = true := by
    have h2' : (PySem.W.clsIn K S).isSome = true := h2
    rw [h2', h3] <;> rfl
  show (if (PySem.W.subIn K (.ref S) (.type "BaseException") == some true) = true then (if ((PySem.W.clsIn K S).isSome && PySem.W.typeIn K (.ref S) == some (.type "type")) = true then PySem.W.subIn K (.ref S) (.ref S) else none) else none) = some true
  rw [if_pos e1, if_pos e2]
  exact h4
/-- found = [e.code] -/
def t_suite (C : Addr) (i j : Nat) : Addr → Value → Option Addr → TS := fun a cls d => tAsg (tLst (tCons (tXf a cls d C "code" (tVar i)) tNil)) (gName j)
end HP

namespace HP
open PySem PySem.Spec PyProof.Rows L2
open Ks577 (Graph pebblesAt possibleMoves)
theorem from1_len (G : Graph) (l : List Nat) (u : Nat) : (from1 G l u).length ≤ G.vertexCount := by
  unfold from1
  split
  · rw [List.length_map]; exact nb_len G u
  · exact Nat.zero_le _
theorem flat_len (G : Graph) (l : List Nat) : ∀ i : Nat, ((List.range i).flatMap (from1 G l)).length ≤ i * G.vertexCount
  | 0 => by simp
  | i + 1 => by
    have ih := flat_len G l i
    have := from1_len G l i
    rw [List.range_succ, List.flatMap_append, List.length_append, Nat.succ_mul]
    simp only [List.flatMap_cons, List.flatMap_nil, List.append_nil]
    omega
theorem flat_succ (G : Graph) (l : List Nat) (i : Nat) : (List.range (i + 1)).flatMap (from1 G l) = (List.range i).flatMap (from1 G l) ++ from1 G l i := by
  rw [List.range_succ, List.flatMap_append]
  simp
theorem Al.app {A B : Type} {R : A → B → Prop} {as cs : List A} {bs ds : List B} (h : Al R as bs) (k : Al R cs ds) : Al R (as ++ cs) (bs ++ ds) := by
  refine ⟨by rw [List.length_append, List.length_append, h.len, k.len], fun i x y h1 h2 => ?_⟩
  have hl := h.len
  by_cases hi : i < as.length
  · rw [List.getElem?_append_left hi] at h1
    rw [List.getElem?_append_left (by omega)] at h2
    exact h.each i x y h1 h2
  · rw [List.getElem?_append_right (by omega)] at h1 h2
    rw [hl] at h1
    exact k.each _ x y h1 h2
theorem rf_app (as bs : List Addr) : rf as ++ rf bs = rf (as ++ bs) := by unfold rf; rw [List.map_append]
section
variable {P : Program} {w : World} {K : PySem.W.Frag} {mg : Str → Option Value} {base : Heap} {C fI : Addr}

/-! ### possible_moves -/
theorem sc_possible_moves : FnScope ["graph", "configuration", "found", "source", "target"] ["graph", "configuration"] (defScope s_possible_moves) := ⟨rfl, rfl, rfl, by decide +kernel, rfl, by decide +kernel, by decide +kernel⟩
def spPM : Sp := fun vs H Q _ => ∃ (g c : Addr) (G : Graph) (l : List Nat), vs = [.ref g, .ref c] ∧ GraphAt H g G ∧ TupN H c l ∧ l.length = G.vertexCount ∧ G.vertexCount ≤ 5 ∧
  ∀ (H' : Hp) (p : Addr) (as : List Addr), Same H H' → H p = none → H' p = some (.lst (rf as)) → Al (PairN H') as (possibleMoves G l) → Q (.ref p) H'
theorem ok_possible_moves (T : Txt K mg C fI) {f : Addr} {fd : FuncData} (F : Fun K "possible_moves" "possible_moves" s_possible_moves f fd) : FnOk P w K mg base CX0 1 f fd ["graph", "configuration"] spPM := by
  obtain ⟨tk1, k1⟩ := T.c_COST
  refine F.ok sc_possible_moves (fun vs H Q E h => ?_) (fun cdv A outer s0 H vs Q E hr h => ?_)
  · obtain ⟨g, c, G, l, rfl, _⟩ := h
    rfl
  · obtain ⟨g, c, G, l, rfl, hG, hc, hl, h5, q⟩ := h
    have nd := sc_possible_moves.nd
    refine ⟨_, pss_cons (ps_set (i := 2) nd rfl (.inl rfl) (pe_lst pa_nil))
      (pss_cons (ps_for PassesOwn.never rfl (pi_range1 (by rfl) T.m_range (pa_cons (pe_callB call_len_seq (by rfl) T.m_len PySem.boot_len (pa_cons (pv 0) pa_nil)) pa_nil)) (pg_name (i := 3) nd rfl (Or.inr rfl))
        (pss_one (ps_if (pt_cmpR op_ge (pe_ix ix_tup (pv 1) (pv 3) (fun _ _ => rfl)) (pe_glob (v := .int 2) (by rfl) k1 ⟨_, rfl⟩) (nomark _))
          (pss_one (ps_expr (pe_bm PySem.F.plainAttrs_list PySem.F.slot_list_extend PySem.F.type_list_extend mt_extend (pv 2) (pa_cons
            (pe_lc (own := [("target", 4)]) (g := gName 4) (tt := tYes) (te := tTup (tCons (tVar 3) (tCons (tVar 4) tNil))) rfl nd (pi_tup (pe_ix ix_tup (pv 0) (pv 3) (fun _ _ => rfl)))
              (blkOk_by (N := ["graph", "configuration", "found", "source", "target"]) (sc := defScope s_possible_moves) (by decide +kernel))
              (fun _ _ _ _ _ => pg_name (i := 4) nd rfl (Or.inl rfl)) (fun _ _ _ _ _ => pts_nil)
              (fun _ _ _ _ _ => pe_tup (pa_cons (pv 3) (pa_cons (pv 4) pa_nil)))) pa_nil))))
          pss_nil)))
      (pss_one (ps_ret (pv 2)))), ?_⟩
    obtain ⟨as0, hg, hgl, _⟩ := hG.len
    refine ⟨(by show 0 ≤ sizeLine; exact Nat.zero_le _), fun D nD => ?_⟩
    have sD : Same H (upd H D (.lst [])) := same_new nD
    refine ⟨_, rfl, g, rf as0, rfl, .inr (.of (sD _ _ hg)), _, rfl, by rw [hgl]; omega, by rw [hgl]; omega, ?_⟩
    rw [hgl]
    refine for_range (lo := 0) (n := ((G.vertexCount : Nat) : Int).toNat) (fun i σ H' => ∃ (as : List Addr) (v3 v4 : Option V), σ = [some (.ref g), some (.ref c), some (.ref D), v3, v4] ∧ Same H H' ∧ H' D = some (.lst (rf as)) ∧ Al (PairN H') as ((List.range i).flatMap (from1 G l)))
      ⟨[], none, none, rfl, sD, upd_same, .nil⟩ ?_ ?_
    · rintro i σ H' hi ⟨as, v3, v4, rfl, sm, hD, al⟩
      have hi' : i < G.vertexCount := by simpa using hi
      have hz : (0 : Int) + (i : Int) = (i : Int) := Int.zero_add _
      have hc' : TupN H' c l := sm _ _ hc
      refine ⟨_, rfl, _, rfl, c, vn l, _, .int (l.getD i 0 : Nat), rfl, rfl, .of hc', (by rw [hz]; exact atI_at (vn_atD (by omega))), _, _, rfl, rfl, _, rfl, ?_⟩
      have hfl : as.length ≤ 25 := by
        rw [al.len]
        have h1 := flat_len G l i
        have h2 : i * G.vertexCount ≤ 5 * 5 := Nat.mul_le_mul (by omega) h5
        omega
      refine ifd (fun h1 => ?_) (fun h1 => ?_)
      · have h2 : 2 ≤ l.getD i 0 := by omega
        have ef : from1 G l i = (nb G i).map fun v => (i, v) := if_pos h2
        obtain ⟨xs, a, hgx, ha, hn⟩ := (hG.keep (.same sm)).at hi'
        refine ⟨_, rfl, .inl ⟨rfl, _, .of hD⟩, ?_⟩
        refine ⟨_, rfl, _, rfl, g, xs, _, _, rfl, rfl, .of hgx, (by rw [hz]; exact atI_at ha), a, rfl, ⟨_, .of hn⟩, fun D2 nD2 => ?_⟩
        refine lc_tup (K := K) (a := a) (xs := vn (nb G i)) (fun j H2 => Same H' H2 ∧ ∃ bs, H2 D2 = some (.lst (rf bs)) ∧ Al (PairN H2) bs (((nb G i).map fun v => (i, v)).take j)) ⟨same_new nD2, [], upd_same, .nil⟩ (fun j H2 _ h => .of (h.1 _ _ hn)) ?_ ?_
        · rintro j x H2 hx ⟨sm2, bs, hD2, alb⟩
          obtain ⟨v, hv, rfl⟩ := vn_inv hx
          refine ⟨rfl, yes_if ?_⟩
          refine ⟨_, rfl, _, rfl, (by show 2 ≤ sizeLine; decide), fun t nt => ?_⟩
          have hD2' : (upd H2 t (.tup [.int (0 + (i : Int)), .int (v : Nat)])) D2 = some (.lst (rf bs)) := by
            rw [upd_ne (ne_of_none hD2 nt)]; exact hD2
          have hm : ((nb G i).map fun v => (i, v))[j]? = some (i, v) := by rw [List.getElem?_map, hv]; rfl
          refine ⟨_, hD2', ?_, same_upd (sm2.trans (same_new nt)) nD2, bs ++ [t], by rw [upd_same, rf_snoc], ?_⟩
          · rw [rf_len, alb.len, List.length_take, List.length_map]
            have := nb_len G i
            exact sl_small (by omega)
          · rw [take_more hm]
            refine (alb.mono fun _ _ z => (z.keep (.new nt)).keep (.lst hD2')).snoc ?_
            refine TupN.keep (.lst hD2') ?_
            unfold TupN
            rw [upd_same, hz]
            rfl
        · rintro H2 ⟨sm2, bs, hD2, alb⟩
          rw [vn_len, List.take_of_length_le (by rw [List.length_map]; exact Nat.le_refl _)] at alb
          have hD' : H2 D = some (.lst (rf as)) := sm2 _ _ hD
          refine ⟨D, D2, _, _, rfl, rfl, hD', hD2, ?_, ?_⟩
          · rw [rf_len, rf_len, alb.len, List.length_map]
            have := nb_len G i
            exact sl_le (by omega)
          · refine ⟨as ++ bs, _, _, rfl, same_upd (sm.trans sm2) nD, by rw [upd_same, rf_app], ?_⟩
            rw [flat_succ, ef]
            exact (al.mono fun _ _ z => (z.keep (.same sm2)).keep (.lst hD')).app (alb.mono fun _ _ z => z.keep (.lst hD'))
      · have h2 : ¬ 2 ≤ l.getD i 0 := by omega
        have ef : from1 G l i = [] := if_neg h2
        refine ⟨as, _, _, rfl, sm, hD, ?_⟩
        rw [flat_succ, ef, List.append_nil]
        exact al
    · rintro σ H' ⟨as, v3, v4, rfl, sm, hD, al⟩
      rw [Int.toNat_natCast, ← possible_eq] at al
      exact ⟨_, rfl, q H' D as sm nD hD al⟩
end
end HP

namespace HP
open PySem PySem.Spec PyProof.Rows L2
open Ks577 (Graph pebblesAt possibleMoves)
/-- a row of the search at a -/
def RowN (H : Hp) (a : Addr) (r : Row) : Prop := ∃ ca ma : Addr, H a = some (.tup [.ref ca, .int (r.2.1 : Nat), .ref ma]) ∧ TupN H ca r.1 ∧ TupN H ma r.2.2
theorem RowN.keep {H H' : Hp} {a : Addr} {r : Row} (k : Tk H H') (h : RowN H a r) : RowN H' a r := by
  obtain ⟨ca, ma, h1, h2, h3⟩ := h
  exact ⟨ca, ma, k _ _ h1, h2.keep k, h3.keep k⟩
/-- the dict of what is present -/
def pres (R : List Row) : List (List Key × V) := R.map fun r => (ky r.1, .bl true)
theorem pres_len (R : List Row) : (pres R).length = R.length := List.length_map _
theorem pres_any (R : List Row) (d : List Nat) : ((pres R).any fun kv => decide (kv.1 = ky d)) = hasR R d := by
  unfold pres hasR
  rw [List.any_map]
  congr 1
  funext r
  show decide (ky r.1 = ky d) = (r.1 == d)
  rw [Bool.eq_iff_iff, decide_eq_true_iff, beq_iff_eq]
  exact ⟨fun h => ky_inj h, fun h => by rw [h]⟩
theorem pres_val (R : List Row) (d : List Nat) : (valV (pres R) (ky d)).isSome = hasR R d := by
  rw [← valV_any, pres_any]
theorem pres_put {R : List Row} {d : List Nat} (h : hasR R d = false) (r : Row) (hr : r.1 = d) : putK (pres R) (ky d) (.bl true) = pres (R ++ [r]) := by
  unfold putK
  rw [pres_any, h, if_neg Bool.false_ne_true]
  unfold pres
  rw [List.map_append]
  show _ = _ ++ [(ky r.1, V.bl true)]
  rw [hr]
theorem fold_take {A B : Type} {f : B → A → B} {b : B} {l : List A} {i : Nat} {x : A} (h : l[i]? = some x) : (l.take (i + 1)).foldl f b = f ((l.take i).foldl f b) x := by
  rw [take_more h, List.foldl_append]; rfl
theorem foldR_take_len (c : List Nat) (p : Nat) (ms : List (Nat × Nat)) (R : List Row) (j : Nat) : ((ms.take j).foldl (insR c p) R).length ≤ (ms.foldl (insR c p) R).length := by
  conv => rhs; rw [← List.take_append_drop j ms, List.foldl_append]
  exact foldR_len c p _ _
theorem insR_old {c : List Nat} {p : Nat} {R : List Row} {m : Nat × Nat} (h : hasR R (Ks577.move c m.1 m.2) = true) : insR c p R m = R := if_pos h
theorem insR_new {c : List Nat} {p : Nat} {R : List Row} {m : Nat × Nat} (h : hasR R (Ks577.move c m.1 m.2) = false) : insR c p R m = R ++ [(Ks577.move c m.1 m.2, p, [m.1, m.2])] := if_neg (by rw [h]; exact Bool.false_ne_true)
theorem insR_wf {n : Nat} {c : List Nat} {p : Nat} {R : List Row} {m : Nat × Nat} (hc : c.length = n) (h : ∀ r ∈ R, r.1.length = n) : ∀ r ∈ insR c p R m, r.1.length = n := by
  unfold insR
  split
  · exact h
  · intro r hr
    rcases List.mem_append.mp hr with hr | hr
    · exact h r hr
    · rw [List.mem_singleton.mp hr]
      show (Ks577.move c m.1 m.2).length = n
      rw [move_len, hc]
theorem foldR_wf {n : Nat} {c : List Nat} {p : Nat} (hc : c.length = n) : ∀ (ms : List (Nat × Nat)) {R : List Row}, (∀ r ∈ R, r.1.length = n) → ∀ r ∈ ms.foldl (insR c p) R, r.1.length = n
  | [], R, h => h
  | m :: ms, R, h => foldR_wf hc ms (insR_wf hc h)
section
variable {P : Program} {w : World} {K : PySem.W.Frag} {mg : Str → Option Value} {base : Heap} {C fI : Addr}

/-! ### all_rows -/
theorem sc_all_rows : FnScope ["graph", "start", "found", "present", "place", "configuration", "move", "later"] ["graph", "start"] (defScope s_all_rows) := ⟨rfl, rfl, rfl, by decide +kernel, rfl, by decide +kernel, by decide +kernel⟩
def spRows : Sp := fun vs H Q _ => ∃ (g c : Addr) (G : Graph) (l : List Nat), vs = [.ref g, .ref c] ∧ GraphAt H g G ∧ TupN H c l ∧ Good G ∧ l.length = G.vertexCount ∧ l.sum ≤ 12 ∧
  ∀ (rows : List Row) (D : Nat), Rows G l rows D → ∀ (H' : Hp) (p : Addr) (as : List Addr), Same H H' → H p = none → H' p = some (.lst (rf as)) → Al (RowN H') as rows → Q (.ref p) H'
theorem ok_all_rows (T : Txt K mg C fI) {f : Addr} {fd : FuncData} (F : Fun K "all_rows" "all_rows" s_all_rows f fd) : FnOk P w K mg base CX0 2 f fd ["graph", "start"] spRows := by
  obtain ⟨fQ, fdQ, gQ, FQ, bQ⟩ := T.d_possible_moves
  have GQ : FnOk P w K mg base CX0 1 fQ fdQ ["graph", "configuration"] spPM := ok_possible_moves T FQ
  obtain ⟨fM, fdM, gM, FM, bM⟩ := T.d_moved
  have GM : FnOk P w K mg base CX0 1 fM fdM ["configuration", "source", "target"] spMoved := ok_moved T FM
  refine F.ok sc_all_rows (fun vs H Q E h => ?_) (fun cdv A outer s0 H vs Q E hr h => ?_)
  · obtain ⟨g, c, G, l, rfl, _⟩ := h
    rfl
  · obtain ⟨g, c, G, l, rfl, hG, hc, gG, hl, h12, q⟩ := h
    have nd := sc_all_rows.nd
    have hu := hu_of hr
    refine ⟨_, pss_cons (ps_par3 (i := 2) (j := 3) (l := 4) rfl nd rfl rfl rfl (by decide) (by decide) (by decide) rfl rfl rfl
        (pa_cons (pe_lst (pa_cons (pe_tup (pa_cons (pv 1) (pa_cons pe_int (pa_cons (pe_tup pa_nil) pa_nil)))) pa_nil)) (pa_cons (pe_dispT1 hu (pv 1) pe_bl) (pa_cons pe_int pa_nil))) (by rfl))
      (pss_cons (ps_while PassesOwn.never (pt_cmpR op_lt (pv 4) (pe_callB call_len_seq (by rfl) T.m_len PySem.boot_len (pa_cons (pv 2) pa_nil)) (nomark _))
        (pss_cons (ps_set (i := 5) nd rfl (.inl rfl) (pe_ix ix_tup (pe_ix ix_list (pv 2) (pv 4) (fun _ _ => rfl)) pe_int (fun _ _ => rfl)))
        (pss_cons (ps_for PassesOwn.never rfl (pi_list (pe_call GQ hr (by rfl) gQ FQ.kp bQ .nil pass0 (pa_cons (pv 0) (pa_cons (pv 5) pa_nil)))) (pg_name (i := 6) nd rfl (Or.inl rfl))
          (pss_cons (ps_set (i := 7) nd rfl (.inl rfl) (pe_call GM hr (by rfl) gM FM.kp bM .nil pass0 (pa_cons (pv 5) (pa_cons (pe_ix ix_tup (pv 6) pe_int (fun _ _ => rfl)) (pa_cons (pe_ix ix_tup (pv 6) pe_int (fun _ _ => rfl)) pa_nil)))))
          (pss_one (ps_if (pt_cmp (pc_dnotin hu (pv 7) (pv 3)))
            (pss_cons (ps_dput hu (pv 3) (pv 7) pe_bl rfl)
            (pss_one (ps_expr (pe_bm PySem.F.plainAttrs_list PySem.F.slot_list_append PySem.F.type_list_append mt_append (pv 2) (pa_cons (pe_tup (pa_cons (pv 7) (pa_cons (pv 4) (pa_cons (pv 6) pa_nil)))) pa_nil)))))
            pss_nil))))
        (pss_one (ps_set (i := 4) nd rfl (.inl rfl) (pe_op op_add (pv 4) pe_int))))))
      (pss_one (ps_ret (pv 2)))), ?_⟩
    obtain ⟨fu, rows, DD, hrun, R⟩ := rows_ex gG hl h12
    -- found, present, place = ..
    refine ⟨_, rfl, (by show 0 ≤ sizeLine; exact Nat.zero_le _), fun m0 nm0 => ?_⟩
    refine ⟨(by show 3 ≤ sizeLine; decide), fun r0 nr0 => ?_⟩
    refine ⟨(by show 1 ≤ sizeLine; decide), fun fo nfo => fun po npo => ?_⟩
    have k1 : Tk H (upd H m0 (.tup [])) := .new nm0
    have k2 : Tk (upd H m0 (.tup [])) (upd (upd H m0 (.tup [])) r0 (.tup [.ref c, .int 0, .ref m0])) := .new nr0
    have k3 : Tk (upd (upd H m0 (.tup [])) r0 (.tup [.ref c, .int 0, .ref m0])) (upd (upd (upd H m0 (.tup [])) r0 (.tup [.ref c, .int 0, .ref m0])) fo (.lst [.ref r0])) := .new nfo
    have k4 : Tk (upd (upd (upd H m0 (.tup [])) r0 (.tup [.ref c, .int 0, .ref m0])) fo (.lst [.ref r0])) (upd (upd (upd (upd H m0 (.tup [])) r0 (.tup [.ref c, .int 0, .ref m0])) fo (.lst [.ref r0])) po (.dT [])) := .new npo
    have s4 : Same H (upd (upd (upd (upd H m0 (.tup [])) r0 (.tup [.ref c, .int 0, .ref m0])) fo (.lst [.ref r0])) po (.dT [])) := (same_new nm0).trans ((same_new nr0).trans ((same_new nfo).trans (same_new npo)))
    have hfoN : H fo = none := ((same_new nm0).trans (same_new nr0)).free nfo
    have hpoN : H po = none := ((same_new nm0).trans ((same_new nr0).trans (same_new nfo))).free npo
    have hc4 : TupN (upd (upd (upd (upd H m0 (.tup [])) r0 (.tup [.ref c, .int 0, .ref m0])) fo (.lst [.ref r0])) po (.dT [])) c l := s4 _ _ hc
    refine ⟨_, rfl, upd_same, c, ky l, rfl, by rw [ky_kV]; exact hc4, ?_⟩
    rw [upd_upd]
    have s5 : Same H (upd (upd (upd (upd H m0 (.tup [])) r0 (.tup [.ref c, .int 0, .ref m0])) fo (.lst [.ref r0])) po (.dT [(ky l, .bl true)])) := (same_new nm0).trans ((same_new nr0).trans ((same_new nfo).trans (same_new npo)))
    have k5 : Tk (upd (upd (upd H m0 (.tup [])) r0 (.tup [.ref c, .int 0, .ref m0])) fo (.lst [.ref r0])) (upd (upd (upd (upd H m0 (.tup [])) r0 (.tup [.ref c, .int 0, .ref m0])) fo (.lst [.ref r0])) po (.dT [(ky l, .bl true)])) := .new npo
    refine ⟨_, _, _, rfl, ?_⟩
    -- the while
    refine ⟨fun m σ H' => ∃ (Rr : List Row) (p : Nat) (as : List Addr) (v5 v6 v7 : Option V), σ = [some (.ref g), some (.ref c), some (.ref fo), some (.ref po), some (.int p), v5, v6, v7] ∧ Same H H' ∧
        H' fo = some (.lst (rf as)) ∧ Al (RowN H') as Rr ∧ H' po = some (.dT (pres Rr)) ∧ (∀ r ∈ Rr, r.1.length = G.vertexCount) ∧ runR G m Rr p = some rows, ⟨fu, ?_⟩, ?_⟩
    · refine ⟨[(l, 0, [])], 0, [r0], none, none, none, rfl, s5, ?_, ?_, upd_same, ?_, hrun⟩
      · rw [upd_ne (fun z => by rw [← z, upd_same] at npo; cases npo)]
        exact upd_same
      · refine Al.nil.snoc (as := []) (bs := []) ⟨c, m0, ?_, s5 _ _ hc, ?_⟩
        · exact k5 _ _ (k3 _ _ upd_same)
        · exact k5 _ _ (k3 _ _ (k2 _ _ upd_same))
      · intro r hr
        rw [List.mem_singleton.mp hr]
        exact hl
    · rintro m σ H' ⟨Rr, p, as, v5, v6, v7, rfl, sm, hfo, al, hpo, wf, hrunm⟩
      have hlen : Rr.length ≤ 371293 := Nat.le_trans (runR_len m hrunm) R.few
      refine ⟨_, rfl, _, rfl, fo, rf as, rfl, .inl (.of hfo), _, _, rfl, rfl, _, rfl, ?_⟩
      rw [rf_len, al.len]
      refine ifd (fun h1 => ?_) (fun h1 => ?_)
      · have hp : p < Rr.length := by omega
        obtain ⟨m', rfl⟩ : ∃ m', m = m' + 1 := by
          cases m with
          | zero =>
            unfold runR at hrunm
            rw [if_pos hp] at hrunm
            cases hrunm
          | succ m' => exact ⟨m', rfl⟩
        have hrun2 : runR G m' (turnR G Rr p) (p + 1) = some rows := by
          unfold runR at hrunm
          rw [if_pos hp] at hrunm
          exact hrunm
        have hr0 : Rr[p]? = some Rr[p] := List.getElem?_eq_getElem hp
        generalize hre : Rr[p] = r at hr0
        obtain ⟨ra, hra, ca, ma, hrow, hca, hma⟩ := al.get hr0
        have hrl : r.1.length = G.vertexCount := wf r (List.mem_of_getElem? hr0)
        have hturn : turnR G Rr p = (possibleMoves G r.1).foldl (insR r.1 p) Rr := by
          unfold turnR; rw [hr0]
        have hfl : ((possibleMoves G r.1).foldl (insR r.1 p) Rr).length ≤ 371293 := by
          rw [← hturn]
          exact Nat.le_trans (runR_len m' hrun2) R.few
        refine ⟨fun σ' H2 => ∃ (as : List Addr) (v5 v6 v7 : Option V), σ' = [some (.ref g), some (.ref c), some (.ref fo), some (.ref po), some (.int (p + 1 : Nat)), v5, v6, v7] ∧ Same H H2 ∧
            H2 fo = some (.lst (rf as)) ∧ Al (RowN H2) as (turnR G Rr p) ∧ H2 po = some (.dT (pres (turnR G Rr p))), fun σ' H2 ⟨as, v5, v6, v7, e, a1, a2, a3, a4⟩ => ⟨m', Nat.lt_succ_self _, turnR G Rr p, p + 1, as, v5, v6, v7, e, a1, a2, a3, a4, ?_, hrun2⟩, ?_⟩
        · rw [hturn]
          exact foldR_wf hrl _ wf
        -- configuration = found[place][0]
        refine ⟨_, rfl, _, rfl, fo, rf as, p, _, rfl, rfl, .of hfo, atI_at (rf_at hra), ra, _, 0, .ref ca, rfl, rfl, .of hrow, rfl, ?_⟩
        -- for move in possible_moves(graph, configuration)
        refine ⟨_, rfl, _, rfl, g, ca, G, r.1, rfl, hG.keep (.same sm), hca, hrl, gG.hi, fun H1 qa as2 sm1 nq hqa al2 => ?_⟩
        have hfo1 : H1 fo = some (.lst (rf as)) := sm1 _ _ hfo
        have hpo1 : H1 po = some (.dT (pres Rr)) := sm1 _ _ hpo
        have qfo : qa ≠ fo := fun z => by rw [z, hfo] at nq; cases nq
        have qpo : qa ≠ po := fun z => by rw [z, hpo] at nq; cases nq
        refine ⟨qa, rfl, ⟨_, .of hqa⟩, ?_⟩
        refine for_list (K := K) (a := qa) (xs := rf as2) (fun j σ H2 => ∃ (as : List Addr) (v6 v7 : Option V), σ = [some (.ref g), some (.ref c), some (.ref fo), some (.ref po), some (.int p), some (.ref ca), v6, v7] ∧ Same H H2 ∧ Tk H1 H2 ∧
            H2 qa = some (.lst (rf as2)) ∧ H2 fo = some (.lst (rf as)) ∧ Al (RowN H2) as (((possibleMoves G r.1).take j).foldl (insR r.1 p) Rr) ∧ H2 po = some (.dT (pres (((possibleMoves G r.1).take j).foldl (insR r.1 p) Rr))))
          ⟨as, v6, v7, rfl, sm.trans sm1, .refl _, hqa, hfo1, al.mono (fun _ _ z => z.keep (.same sm1)), hpo1⟩ (fun j σ H2 _ ⟨_, _, _, _, _, _, h, _⟩ => .of h) ?_ ?_
        · rintro j x σ H2 hx ⟨as, v6, v7, rfl, sm2, tk2, hqa2, hfo2, al3, hpo2⟩
          obtain ⟨mv, hmv, rfl⟩ := rf_inv hx
          obtain ⟨e, he, pn⟩ := al2.get' hmv
          have pn2 : H2 mv = some (.tup (vn [e.1, e.2])) := tk2 _ _ pn
          have hca2 : TupN H2 ca r.1 := (hca.keep (.same sm1)).keep tk2
          obtain ⟨b1, b2, b3, b4⟩ := possible_mem (List.mem_of_getElem? he)
          have hlj : (((possibleMoves G r.1).take j).foldl (insR r.1 p) Rr).length ≤ 371293 := Nat.le_trans (foldR_take_len _ _ _ _ _) hfl
          rw [fold_take he]
          generalize hRj : ((possibleMoves G r.1).take j).foldl (insR r.1 p) Rr = Rj at al3 hpo2 hlj ⊢
          refine ⟨_, rfl, _, rfl, mv, _, 0, .int (e.1 : Nat), rfl, rfl, .of pn2, rfl, _, rfl, mv, _, 1, .int (e.2 : Nat), rfl, rfl, .of pn2, rfl, ?_⟩
          refine ⟨ca, e.1, e.2, r.1, rfl, hca2, by omega, by omega, b3, fun H3 b sm3 nb hb => ?_⟩
          have hpo3 := sm3 _ _ hpo2
          have hfo3 := sm3 _ _ hfo2
          have hqa3 := sm3 _ _ hqa2
          have hb' : H3 b = some (.tup ((ky (Ks577.move r.1 e.1 e.2)).map kV)) := by rw [ky_kV]; exact hb
          refine ⟨_, rfl, _, rfl, po, _, rfl, DGet.t hpo3 hb', _, rfl, ?_⟩
          rw [pres_val]
          refine ifb (fun hz => ?_) (fun hz => ?_)
          · have hh : hasR Rj (Ks577.move r.1 e.1 e.2) = false := by
              cases y : hasR Rj (Ks577.move r.1 e.1 e.2) with
              | false => rfl
              | true => rw [y] at hz; cases hz
            rw [insR_new hh]
            refine ⟨_, rfl, _, rfl, po, _, rfl, DPut.t hpo3 hb' (by rw [pres_len]; exact sl_small (by omega)), ?_⟩
            rw [pres_put hh (Ks577.move r.1 e.1 e.2, p, [e.1, e.2]) rfl]
            generalize hR2 : Rj ++ [(Ks577.move r.1 e.1 e.2, p, [e.1, e.2])] = R2
            have tkp : Tk H3 (upd H3 po (.dT (pres R2))) := .dct hpo3
            have hfo4 : (upd H3 po (.dT (pres R2))) fo = some (.lst (rf as)) := by
              rw [upd_ne (ne_of hfo3 hpo3 (fun z => nomatch z))]; exact hfo3
            refine ⟨_, rfl, .inl ⟨rfl, _, .of hfo4⟩, ?_⟩
            refine ⟨_, rfl, _, rfl, _, rfl, (by show 3 ≤ sizeLine; decide), fun t nt => ?_⟩
            have hfo5 : (upd (upd H3 po (.dT (pres R2))) t (.tup [.ref b, .int p, .ref mv])) fo = some (.lst (rf as)) := by
              rw [upd_ne (ne_of_none hfo4 nt)]; exact hfo4
            have tkt : Tk (upd H3 po (.dT (pres R2))) (upd (upd H3 po (.dT (pres R2))) t (.tup [.ref b, .int p, .ref mv])) := .new nt
            refine ⟨fo, rf as, _, rfl, rfl, hfo5, by rw [rf_len, al3.len]; exact sl_small (by omega), ?_⟩
            have tkl := Tk.lst (o := .lst (rf as ++ [.ref t])) hfo5
            have tk34 := (tkp.trans tkt).trans tkl
            refine ⟨as ++ [t], _, _, rfl, ?_, (tk2.trans (.same sm3)).trans tk34, ?_, by rw [upd_same, rf_snoc], ?_, ?_⟩
            · exact same_upd (fun x o hx => same_new nt x o (same_upd (sm2.trans sm3) hpoN x o hx)) hfoN
            · rw [upd_ne qfo, upd_ne (fun z => by rw [← z, upd_ne qpo, hqa3] at nt; cases nt), upd_ne qpo]
              exact hqa3
            · have al4 : Al (RowN (upd (upd (upd H3 po (.dT (pres R2))) t (.tup [.ref b, .int p, .ref mv])) fo (.lst (rf as ++ [.ref t])))) (as ++ [t]) (Rj ++ [(Ks577.move r.1 e.1 e.2, p, [e.1, e.2])]) :=
                Al.snoc (b := ((Ks577.move r.1 e.1 e.2, p, [e.1, e.2]) : Row)) (al3.mono fun _ _ z => (z.keep (.same sm3)).keep tk34) ⟨b, mv, tkl _ _ upd_same, hb.keep tk34, TupN.keep ((Tk.same sm3).trans tk34) pn2⟩
              rw [hR2] at al4
              exact al4
            · rw [upd_ne (fun z => ne_of hfo3 hpo3 (fun y => nomatch y) z.symm), upd_ne (fun z => by rw [← z, upd_same] at nt; cases nt), upd_same]
          · have hh : hasR Rj (Ks577.move r.1 e.1 e.2) = true := by
              cases y : hasR Rj (Ks577.move r.1 e.1 e.2) with
              | true => rfl
              | false => rw [y] at hz; cases hz
            rw [insR_old hh]
            exact ⟨as, _, _, rfl, sm2.trans sm3, tk2.trans (.same sm3), hqa3, hfo3, al3.mono (fun _ _ z => z.keep (.same sm3)), hpo3⟩
        · rintro σ H2 ⟨as, v6, v7, rfl, sm2, tk2, hqa2, hfo2, al3, hpo2⟩
          rw [rf_len, al2.len, List.take_length, ← hturn] at al3 hpo2
          refine ⟨_, rfl, _, _, rfl, rfl, ?_⟩
          exact ⟨as, _, _, _, rfl, sm2, hfo2, al3, hpo2⟩
      · -- the end
        have hp : ¬ p < Rr.length := by omega
        have er : Rr = rows := by
          cases m with
          | zero =>
            unfold runR at hrunm
            rw [if_neg hp] at hrunm
            exact Option.some.inj hrunm
          | succ m' =>
            unfold runR at hrunm
            rw [if_neg hp] at hrunm
            exact Option.some.inj hrunm
        subst er
        exact ⟨_, rfl, q Rr DD R H' fo as sm hfoN hfo al⟩
end
end HP

namespace HP
open PySem PySem.Spec PyProof.Rows L2
open Ks577 (Graph pebblesAt possibleMoves minMoves shortestSequence)

theorem Rows.keys {G : Graph} {l : List Nat} {rows : List Row} {D : Nat} (gG : Good G) (hl : l.length = G.vertexCount) (R : Rows G l rows D) : ∀ r ∈ rows, r.1.length = G.vertexCount := by
  intro r hr
  have hk : r.1 ∈ rows.map (·.1) := List.mem_map.mpr ⟨r, hr, rfl⟩
  rw [R.link.keys] at hk
  obtain ⟨q, hq, e⟩ := List.mem_map.mp hk
  obtain ⟨j, _, hq⟩ := FQ_mem.mp hq
  rw [← e]
  exact (Pk_props gG hl hq).1
theorem Rows.first {G : Graph} {l : List Nat} {rows : List Row} {D : Nat} (R : Rows G l rows D) : ∃ r, rows[0]? = some r ∧ r.1 = l := by
  have hD := R.dep.pos
  obtain ⟨E, rfl⟩ : ∃ E, D = E + 1 := ⟨D - 1, by omega⟩
  obtain ⟨x, ex⟩ := FQ_split G l 0 E
  have hq : (FQ G l (E + 1))[0]? = some (l, []) := by
    have e : FQ G l (E + 1) = FQ G l 0 ++ (Pk G l 0 ++ x) := by rw [← ex]; congr 1; omega
    rw [e]; rfl
  have hlen : 0 < rows.length := by
    rw [R.link.len]
    exact (List.getElem?_eq_some_iff.mp hq).1
  have hr : rows[0]? = some rows[0] := List.getElem?_eq_getElem hlen
  exact ⟨rows[0], hr, R.link.key 0 _ _ hr hq⟩
end HP

namespace HP
open PySem PySem.Spec PyProof.Rows L2
open Ks577 (Graph pebblesAt possibleMoves minMoves shortestSequence maxPebblesAt canReach levels)

section
variable {P : Program} {w : World} {K : PySem.W.Frag} {mg : Str → Option Value} {base : Heap} {C fI : Addr}

/-! ### most_at -/
theorem sc_most_at : FnScope ["rows", "target", "configuration", "before", "move"] ["rows", "target"] (defScope s_most_at) := ⟨rfl, rfl, rfl, by decide +kernel, rfl, by decide +kernel, by decide +kernel⟩
def spMost : Sp := fun vs H Q _ => ∃ (p : Addr) (t : Nat) (as : List Addr) (rows : List Row), vs = [.ref p, .int t] ∧ H p = some (.lst (rf as)) ∧ Al (RowN H) as rows ∧ (∀ r ∈ rows, t < r.1.length) ∧ 0 < rows.length ∧ rows.length ≤ 371293 ∧
  ∀ (H' : Hp) (m : Nat), Same H H' → m ∈ rows.map (fun r => pebblesAt r.1 t) → (∀ y ∈ rows.map (fun r => pebblesAt r.1 t), y ≤ m) → Q (.int (m : Nat)) H'
theorem ok_most_at (T : Txt K mg C fI) {f : Addr} {fd : FuncData} (F : Fun K "most_at" "most_at" s_most_at f fd) : FnOk P w K mg base CX0 1 f fd ["rows", "target"] spMost := by
  refine F.ok sc_most_at (fun vs H Q E h => ?_) (fun cdv A outer s0 H vs Q E hr h => ?_)
  · obtain ⟨p, t, as, rows, rfl, _⟩ := h
    rfl
  · obtain ⟨p, t, as, rows, rfl, hp, al, ht, h0, hlen, q⟩ := h
    have nd := sc_most_at.nd
    refine ⟨_, pss_one (ps_ret (pe_callB (cr_max rfl) (by rfl) T.m_max (by decide +kernel) (pa_cons
        (pe_lc (own := [("configuration", 2), ("before", 3), ("move", 4)]) (g := gTup K 3 (gCons (gName 2) (gCons (gName 3) (gCons (gName 4) gNil)))) (tt := tYes) (te := tOp (rIxT K) (tVar 2) (tVar 1)) rfl nd (pi_list (pv 0))
          (blkOk_by (N := ["rows", "target", "configuration", "before", "move"]) (sc := defScope s_most_at) (by decide +kernel))
          (fun _ _ _ _ _ => pg_tup rfl (pgs_cons (pg_name (i := 2) nd rfl (Or.inl rfl)) (pgs_cons (pg_name (i := 3) nd rfl (Or.inl rfl)) (pgs_cons (pg_name (i := 4) nd rfl (Or.inl rfl)) pgs_nil)))) (fun _ _ _ _ _ => pts_nil)
          (fun _ _ _ _ _ => pe_ix ix_tup (pv 2) (pv 1) (fun _ _ => rfl))) pa_nil))), ?_⟩
    refine ⟨_, rfl, p, rfl, ⟨_, .of hp⟩, fun D nD => ?_⟩
    refine lc_list (K := K) (a := p) (xs := rf as) (fun i H' => Same H H' ∧ H' D = some (.lst (vn ((rows.take i).map fun r => pebblesAt r.1 t)))) ⟨same_new nD, upd_same⟩ (fun i H' _ h => h.1.seq (.of hp)) ?_ ?_
    · rintro i x H' hx ⟨sm, hD⟩
      obtain ⟨ra, hra, rfl⟩ := rf_inv hx
      obtain ⟨r, hr0, ca, ma, h1, h2, h3⟩ := al.get' hra
      have hl := ht r (List.mem_of_getElem? hr0)
      refine ⟨ra, _, rfl, .of (sm _ _ h1), rfl, _, _, rfl, _, _, rfl, _, _, rfl, rfl, rfl, yes_if ?_⟩
      refine ⟨_, rfl, _, rfl, ca, vn r.1, t, .int (r.1.getD t 0 : Nat), rfl, rfl, .of (sm _ _ h2), atI_at (vn_atD hl), ?_⟩
      refine ⟨_, hD, ?_, same_upd sm nD, ?_⟩
      · rw [vn_len, List.length_map, List.length_take]
        exact sl_small (by omega)
      · rw [upd_same, take_more hr0, vn_snoc, List.map_append]
        rfl
    · rintro H1 ⟨sm1, hD⟩
      rw [rf_len, al.len, List.take_length] at hD
      refine ⟨D, nis (rows.map fun r => pebblesAt r.1 t), rfl, by rw [← vn_nis]; exact .of hD, ?_, fun m hm hle => ?_⟩
      · unfold nis
        rw [List.length_map, List.length_map]
        exact h0
      · obtain ⟨k, hk, rfl⟩ := List.mem_map.mp hm
        refine q H1 k sm1 hk fun y hy => ?_
        have := hle _ (List.mem_map.mpr ⟨y, hy, rfl⟩)
        omega
end
end HP

namespace HP
open PySem PySem.Spec PyProof.Rows L2
open Ks577 (Graph pebblesAt possibleMoves minMoves shortestSequence maxPebblesAt canReach levels)

theorem told4 (n : Nat) (es peb : List Nat) : told (.reachableVertices n es peb) = if Fits n es peb then (((((List.range n).filter fun v => canReach ⟨n, prs es⟩ peb v 1).length : Nat) : Int) :: nis ((List.range n).filter fun v => canReach ⟨n, prs es⟩ peb v 1)) else [-22] := by
  show Ks577Neutral.integers (Ks577.withConfiguration n es peb _) = _
  rw [withConf_eq]
  by_cases h : Fits n es peb
  · rw [if_pos h, if_pos h]; rfl
  · rw [if_neg h, if_neg h]; rfl
theorem filter_range_succ (f : Nat → Bool) (i : Nat) : (List.range (i + 1)).filter f = (List.range i).filter f ++ if f i = true then [i] else [] := by
  rw [List.range_succ, List.filter_append]
  by_cases h : f i = true
  · rw [if_pos h]; simp [h]
  · rw [if_neg h]; simp [h]
section
variable {P : Program} {w : World} {K : PySem.W.Frag} {mg : Str → Option Value} {base : Heap} {C fI : Addr}
def Req4 (K : PySem.W.Frag) (H : Hp) (vs : List V) (n : Nat) (es peb : List Nat) : Prop := ∃ (e b : Addr), vs = [.int n, .ref e, .ref b] ∧ SqL K H e (vn es) ∧ SqL K H b (vn peb) ∧ es.length ≤ 100

/-! ### reached_vertices -/
theorem sc_reached_vertices : FnScope ["vertex_count", "edges", "pebbles", "graph", "rows", "found", "vertex"] ["vertex_count", "edges", "pebbles"] (defScope s_reached_vertices) := ⟨rfl, rfl, rfl, by decide +kernel, rfl, by decide +kernel, by decide +kernel⟩
def spReached (K : PySem.W.Frag) (C : Addr) : Sp := fun vs H Q E => ∃ (n : Nat) (es peb : List Nat), Req4 K H vs n es peb ∧ Told C H (told (.reachableVertices n es peb)) Q E
theorem ok_reached_vertices (T : Txt K mg C fI) {f : Addr} {fd : FuncData} (F : Fun K "reached_vertices" "reached_vertices" s_reached_vertices f fd) : FnOk P w K mg base (L2.CX P w) 5 f fd ["vertex_count", "edges", "pebbles"] (spReached K C) := by
  obtain ⟨f1, fd1, g1, F1, b1⟩ := T.d_read_graph
  have G1 : FnOk P w K mg base (L2.CX P w) 4 f1 fd1 ["vertex_count", "edges"] (spGraph K C) := ok_read_graph T F1
  obtain ⟨f2, fd2, g2, F2, b2⟩ := T.d_read_pebbles
  have G2 : FnOk P w K mg base (L2.CX P w) 4 f2 fd2 ["graph", "pebbles"] (spPebbles K C) := ok_read_pebbles T F2
  obtain ⟨f4, fd4, g4, F4, b4⟩ := T.d_all_rows
  have G4 : FnOk P w K mg base CX0 2 f4 fd4 ["graph", "start"] spRows := ok_all_rows T F4
  obtain ⟨f5, fd5, g5, F5, b5⟩ := T.d_most_at
  have G5 : FnOk P w K mg base CX0 1 f5 fd5 ["rows", "target"] spMost := ok_most_at T F5
  refine F.okX sc_reached_vertices (fun vs H Q E h => ?_) (fun cdv A outer s H vs Q E hr h => ?_)
  · obtain ⟨n, es, peb, ⟨e, b, rfl, _⟩, _⟩ := h
    rfl
  · obtain ⟨n, es, peb, ⟨e, b, rfl, hE, hB, le⟩, qb, qg⟩ := h
    have nd := sc_reached_vertices.nd
    have hr1 : Room 1 _ := hr.mono (by decide)
    have hr2 : Room 2 _ := hr.mono (by decide)
    refine ⟨_, pss_cons (ps_set (i := 3) nd rfl (.inl rfl) (pe_call G1 hr (by rfl) g1 F1.kp b1 .nil (passes_call (takes_of rfl rfl rfl rfl) (fun _ _ _ _ h => h)) (pa_cons (pv 0) (pa_cons (pv 1) pa_nil))))
      (pss_cons (ps_set (i := 4) nd rfl (.inr rfl) (pe_call G4 hr2 (by rfl) g4 F4.kp b4 .nil pass0 (pa_cons (pv 3) (pa_cons (pe_call G2 hr (by rfl) g2 F2.kp b2 .nil (passes_call (takes_of rfl rfl rfl rfl) (fun _ _ _ _ h => h)) (pa_cons (pv 3) (pa_cons (pv 2) pa_nil))) pa_nil))))
      (pss_cons (ps_setLc (i := 5) (own := [("vertex", 6)]) (g := gName 6) (tt := tTest (tOp (rI0 fun i j => .bl (decide (j < i))) (tCall spMost [] E0 (tCons (tVar 4) (tCons (tVar 6) tNil))) (tC (.int 0)))) (te := tVar 6) rfl nd rfl rfl (sw_true rfl rfl rfl (by decide +kernel)) (pi_range1 (by rfl) T.m_range (pa_cons (pv 0) pa_nil))
          (blkOk_by (N := ["vertex_count", "edges", "pebbles", "graph", "rows", "found", "vertex"]) (sc := defScope s_reached_vertices) (by decide +kernel))
          (fun _ _ _ _ _ => pg_name (i := 6) nd rfl (Or.inl rfl))
          (fun _ _ _ _ _ => pts_one (pt_cmpR op_gt (pe_call G5 hr1 (by rfl) g5 F5.kp b5 .nil pass0 (pa_cons (pv 4) (pa_cons (pv 6) pa_nil))) pe_int (nomark _))) (fun _ _ _ _ _ => pv 6))
      (pss_one (ps_ret (pe_op op_cat (pe_lst (pa_cons (pe_callB call_len_seq (by rfl) T.m_len PySem.boot_len (pa_cons (pv 5) pa_nil)) pa_nil)) (pv 5)))))), ?_⟩
    rw [told4] at qb qg
    refine ⟨_, rfl, _, rfl, n, e, es, rfl, hE, le, fun na => ?_, fun ha H1 g sm1 hG => ?_⟩
    · rw [if_neg (fun z => na z.1)] at qb
      exact qb _ rfl
    refine ⟨_, rfl, _, rfl, _, rfl, g, b, _, peb, rfl, hG, sm1.seq hB, fun nf => ?_, fun hf H2 c sm2 hc => ?_⟩
    · rw [if_neg (fun z => nf z.2)] at qb
      exact (qb _ rfl).mono sm1
    have hF : Fits n es peb := ⟨ha, hf⟩
    rw [if_pos hF] at qb qg
    have gG : Good ⟨n, prs es⟩ := good_of ha.1 ha.2.1 ha.2.2
    refine ⟨g, c, _, peb, rfl, hG.keep (.same sm2), hc, gG, hf.1, hf.2, fun rows D R H3 p as sm3 np hp al => ?_⟩
    have h5 := ha.2.1
    have hpos : 0 < rows.length := by
      obtain ⟨r0, hr0, _⟩ := R.first
      exact (List.getElem?_eq_some_iff.mp hr0).1
    refine ⟨_, rfl, n, rfl, by omega, by omega, fun DD nD => ?_⟩
    refine lc_range (lo := 0) (n := ((n : Nat) : Int).toNat) (fun i H' => Same H3 H' ∧ H' DD = some (.lst (vn ((List.range i).filter fun v => canReach ⟨n, prs es⟩ peb v 1)))) ⟨same_new nD, upd_same⟩ ?_ ?_
    · rintro i H' hi ⟨sm, hD⟩
      have hi' : i < n := by simpa using hi
      have hz : (0 : Int) + (i : Int) = (i : Int) := Int.zero_add _
      refine ⟨rfl, _, rfl, _, rfl, p, i, as, rows, (by rw [hz]; rfl), sm _ _ hp, al.mono (fun _ _ z => z.keep (.same sm)), fun r hr' => by rw [R.keys gG hf.1 r hr']; exact hi', hpos, R.few, fun H4 m sm4 h1 h2 => ?_⟩
      refine ⟨_, _, rfl, rfl, _, rfl, ?_⟩
      have hcr := reach_eq R h1 h2
      have hll : ((List.range i).filter fun v => canReach ⟨n, prs es⟩ peb v 1).length ≤ i := by
        have := List.length_filter_le (fun v => canReach ⟨n, prs es⟩ peb v 1) (List.range i)
        rw [List.length_range] at this
        exact this
      refine ifd (fun h => ?_) (fun h => ?_)
      · have hm : canReach ⟨n, prs es⟩ peb i 1 = true := by rw [hcr]; exact decide_eq_true (by omega)
        refine ⟨_, rfl, _, sm4 _ _ hD, ?_, same_upd (sm.trans sm4) nD, ?_⟩
        · rw [vn_len]
          exact sl_small (by omega)
        · rw [upd_same, filter_range_succ, if_pos hm, hz, vn_snoc]
      · have hm : ¬ canReach ⟨n, prs es⟩ peb i 1 = true := by
          rw [hcr]
          intro z
          have := of_decide_eq_true z
          omega
        refine ⟨sm.trans sm4, ?_⟩
        rw [filter_range_succ, if_neg hm, List.append_nil]
        exact sm4 _ _ hD
    · rintro H4 ⟨sm4, hD⟩
      rw [Int.toNat_natCast] at hD
      refine ⟨_, rfl, DD, _, rfl, .inl (.of hD), (by show 1 ≤ sizeLine; decide), fun l nl => ?_⟩
      refine ⟨_, rfl, ?_⟩
      have hD' : (upd H4 l (.lst [.int ((vn ((List.range n).filter fun v => canReach ⟨n, prs es⟩ peb v 1)).length : Nat)])) DD = some (.lst (vn ((List.range n).filter fun v => canReach ⟨n, prs es⟩ peb v 1))) := same_new nl _ _ hD
      have hll : ((List.range n).filter fun v => canReach ⟨n, prs es⟩ peb v 1).length ≤ n := by
        have := List.length_filter_le (fun v => canReach ⟨n, prs es⟩ peb v 1) (List.range n)
        rw [List.length_range] at this
        exact this
      refine ⟨l, DD, _, _, rfl, rfl, upd_same, hD', ?_, fun l2 nl2 => ?_⟩
      · rw [vn_len]
        refine sl_le ?_
        show 1 + _ ≤ 1000000
        omega
      · refine qg _ l2 ((sm1.trans sm2).trans (sm3.trans (sm4.trans ((same_new nl).trans (same_new nl2))))) ?_
        rw [upd_same, vn_len, vn_nis]
        rfl

/-! ### reachable_vertices -/
theorem sc_reachable_vertices : FnScope ["vertex_count", "edges", "pebbles", "found", "e"] ["vertex_count", "edges", "pebbles"] (defScope s_reachable_vertices) := ⟨rfl, rfl, rfl, by decide +kernel, rfl, by decide +kernel, by decide +kernel⟩
def spTop (K : PySem.W.Frag) : Sp := fun vs H Q _ => ∃ (n : Nat) (es peb : List Nat), Req4 K H vs n es peb ∧ Gives (told (.reachableVertices n es peb)) Q
theorem ok_reachable_vertices (T : Txt K mg C fI) {f : Addr} {fd : FuncData} (F : Fun K "reachable_vertices" "reachable_vertices" s_reachable_vertices f fd) : FnOk P w K mg base CX0 6 f fd ["vertex_count", "edges", "pebbles"] (spTop K) := by
  obtain ⟨f1, fd1, g1, F1, b1⟩ := T.d_reached_vertices
  have G1 : FnOk P w K mg base (L2.CX P w) 5 f1 fd1 ["vertex_count", "edges", "pebbles"] (spReached K C) := ok_reached_vertices T F1
  refine F.ok sc_reachable_vertices (fun vs H Q E h => ?_) (fun cdv A outer s H vs Q E hr h => ?_)
  · obtain ⟨n, es, peb, ⟨e, b, rfl, _⟩, _⟩ := h
    rfl
  · obtain ⟨n, es, peb, ⟨e, b, rfl, hE, hB, le⟩, q⟩ := h
    have nd := sc_reachable_vertices.nd
    refine ⟨_, pss_cons (ps_try_as (i := 4) (tb := fun W => tAsg (tCallS (spReached K C) (WE W) (tCons (tVar 0) (tCons (tVar 1) (tCons (tVar 2) tNil)))) (gName 3)) (ts := t_suite C 4 3) (Wout := fun _ _ _ _ => False) rfl rfl nd rfl rfl ⟨rfl, by decide, Or.inl T.rk.gC⟩ takes0
          (fun W pn xe tk _ => pss_one (ps_set (i := 3) nd rfl (Or.inl rfl) (by exact (pe_callS G1 hr rfl g1 F1.kp b1 (fun σ => passAt tk σ) (by exact (pa_cons (pv 0) (pa_cons (pv 1) (pa_cons (pv 2) pa_nil))))))))
          (fun a oe cls d pn hz hf => pss_one (ps_set (i := 3) nd rfl (Or.inl rfl) (by exact (pe_lst (pa_cons (pe_xf T.rk.xf T.rk.noC hz hf (pv 4)) pa_nil))))))
      (pss_one (ps_ret (pv 3))), ?_⟩
    refine ⟨_, rfl, _, rfl, _, rfl, n, es, peb, ⟨e, b, rfl, hE, hB, le⟩, fun c hc => ?_, fun H' t sm ht => ?_⟩
    · intro d H' sm hd
      refine ⟨true, T.rk.te, fun _ a na => ?_, fun z => Bool.noConfusion z⟩
      refine ⟨_, rfl, rfl, rfl, d, _, .int c, rfl, hd, rfl, (by show 1 ≤ sizeLine; decide), fun l nl => ?_⟩
      refine ⟨_, rfl, q _ l ?_⟩
      rw [hc]
      exact upd_same
    · exact ⟨_, rfl, q _ t ht⟩
end
end HP

namespace HP
open PySem PySem.Spec PyProof.Rows L2
theorem all_mk {P : Program} {w : World} {K : PySem.W.Frag} {h : Heap} {mg : Str → Option Value} {fa C fI : Addr} {nm q0 : Str} {N0 : Addr} {bs0 : List Value} {sn0 : List Str} {sub0 : List Value} {ab0 : Bool} {col0 : Option Bool} {dd0 : Option Addr} {m0 m1 m2 m3 m5 : Option Value} {odI anI : Option Addr} {slI : Array (Option Value)} {ocI kVI dcI pmI cdI ctI : Value} {f_need : Addr} {od_need an_need : Option Addr} {sl_need : Array (Option Value)} {oc_need kV_need dc_need pm_need cd_need ct_need : Value} {f_pairs_of : Addr} {od_pairs_of an_pairs_of : Option Addr} {sl_pairs_of : Array (Option Value)} {oc_pairs_of kV_pairs_of dc_pairs_of pm_pairs_of cd_pairs_of ct_pairs_of : Value} {f_are_edges : Addr} {od_are_edges an_are_edges : Option Addr} {sl_are_edges : Array (Option Value)} {oc_are_edges kV_are_edges dc_are_edges pm_are_edges cd_are_edges ct_are_edges : Value} {f_neighbours_of : Addr} {od_neighbours_of an_neighbours_of : Option Addr} {sl_neighbours_of : Array (Option Value)} {oc_neighbours_of kV_neighbours_of dc_neighbours_of pm_neighbours_of cd_neighbours_of ct_neighbours_of : Value} {f_read_graph : Addr} {od_read_graph an_read_graph : Option Addr} {sl_read_graph : Array (Option Value)} {oc_read_graph kV_read_graph dc_read_graph pm_read_graph cd_read_graph ct_read_graph : Value} {f_read_pebbles : Addr} {od_read_pebbles an_read_pebbles : Option Addr} {sl_read_pebbles : Array (Option Value)} {oc_read_pebbles kV_read_pebbles dc_read_pebbles pm_read_pebbles cd_read_pebbles ct_read_pebbles : Value} {f_moved : Addr} {od_moved an_moved : Option Addr} {sl_moved : Array (Option Value)} {oc_moved kV_moved dc_moved pm_moved cd_moved ct_moved : Value} {f_possible_moves : Addr} {od_possible_moves an_possible_moves : Option Addr} {sl_possible_moves : Array (Option Value)} {oc_possible_moves kV_possible_moves dc_possible_moves pm_possible_moves cd_possible_moves ct_possible_moves : Value} {f_all_rows : Addr} {od_all_rows an_all_rows : Option Addr} {sl_all_rows : Array (Option Value)} {oc_all_rows kV_all_rows dc_all_rows pm_all_rows cd_all_rows ct_all_rows : Value} {f_most_at : Addr} {od_most_at an_most_at : Option Addr} {sl_most_at : Array (Option Value)} {oc_most_at kV_most_at dc_most_at pm_most_at cd_most_at ct_most_at : Value} {f_reached_vertices : Addr} {od_reached_vertices an_reached_vertices : Option Addr} {sl_reached_vertices : Array (Option Value)} {oc_reached_vertices kV_reached_vertices dc_reached_vertices pm_reached_vertices cd_reached_vertices ct_reached_vertices : Value} {f_reachable_vertices : Addr} {od_reachable_vertices an_reachable_vertices : Option Addr} {sl_reachable_vertices : Array (Option Value)} {oc_reachable_vertices kV_reachable_vertices dc_reachable_vertices pm_reachable_vertices cd_reachable_vertices ct_reachable_vertices : Value} {tk_OUT_OF_LIMITS : Tok} {tk_MOST_VERTICES : Tok} {tk_MOST_PEBBLES : Tok} {tk_COST : Tok} (X : K.In h) (G : h.Ns mainGlobals mg) (hfa : mg "reachable_vertices" = some (.ref fa))
    (aC : PySem.W.nsIn K mainGlobals "Refused" = some (some (.ref C)))
    (xL : K.lookup C = some (excClassObj nm q0 C N0 bs0 [.type "ValueError", .type "Exception", .type "BaseException", .type "object"] true sn0 sub0 ab0 col0 dd0 m0 m1 m2 m3 m5 "ValueError.__new__"))
    (sa : PySem.W.findIn K (.ref C) "__setattr__" = some (some (.builtin "object.__setattr__")))
    (ga : PySem.W.findIn K (.ref C) "__getattribute__" = some (some (.builtin "BaseException.__getattribute__")))
    (gg : PySem.W.findIn K (.ref C) "__getattr__" = some none)
    (nc : PySem.W.findIn K (.ref C) "code" = some none)
    (aI : PySem.W.findIn K (.ref C) "__init__" = some (some (.ref fI)))
    (tI : PySem.W.typeIn K (.ref fI) = some (.type "function"))
    (lI : K.lookup fI = some ⟨ocI, odI, .func (PySem.W.fnOf "__init__" "Refused.__init__" (defArgs sInit) (defBody sInit) (defScope sInit) .none kVI dcI pmI anI cdI ctI), slI⟩)
    (cI : PySem.W.codeIn K cdI "Refused.__init__" = true)
    (kI : PySem.W.keepIn K (.ref fI) = true)
    (kC : PySem.W.keepIn K (.ref C) = true)
    (eC : PySem.W.subIn K (.ref C) (.type "BaseException") = some true)
    (tC : PySem.W.typeIn K (.ref C) = some (.type "type"))
    (hC : PySem.W.hasDictIn K C = true)
    (iC : PySem.W.isClsIn K C = true)
    (sC : PySem.W.subIn K (.ref C) (.ref C) = some true)
    (vV : PySem.W.findCls K (.type "ValueError") (.type "type") "__init__" = some (.val (.builtin "ValueError.__init__")))
    (a_need : PySem.W.nsIn K mainGlobals "need" = some (some (.ref f_need)))
    (l_need : K.lookup f_need = some ⟨oc_need, od_need, .func (PySem.W.fnOf "need" "need" (defArgs s_need) (defBody s_need) (defScope s_need) .none kV_need dc_need pm_need an_need cd_need ct_need), sl_need⟩)
    (c_need : PySem.W.codeIn K cd_need "need" = true)
    (k_need : PySem.W.keepIn K (.ref f_need) = true)
    (a_pairs_of : PySem.W.nsIn K mainGlobals "pairs_of" = some (some (.ref f_pairs_of)))
    (l_pairs_of : K.lookup f_pairs_of = some ⟨oc_pairs_of, od_pairs_of, .func (PySem.W.fnOf "pairs_of" "pairs_of" (defArgs s_pairs_of) (defBody s_pairs_of) (defScope s_pairs_of) .none kV_pairs_of dc_pairs_of pm_pairs_of an_pairs_of cd_pairs_of ct_pairs_of), sl_pairs_of⟩)
    (c_pairs_of : PySem.W.codeIn K cd_pairs_of "pairs_of" = true)
    (k_pairs_of : PySem.W.keepIn K (.ref f_pairs_of) = true)
    (a_are_edges : PySem.W.nsIn K mainGlobals "are_edges" = some (some (.ref f_are_edges)))
    (l_are_edges : K.lookup f_are_edges = some ⟨oc_are_edges, od_are_edges, .func (PySem.W.fnOf "are_edges" "are_edges" (defArgs s_are_edges) (defBody s_are_edges) (defScope s_are_edges) .none kV_are_edges dc_are_edges pm_are_edges an_are_edges cd_are_edges ct_are_edges), sl_are_edges⟩)
    (c_are_edges : PySem.W.codeIn K cd_are_edges "are_edges" = true)
    (k_are_edges : PySem.W.keepIn K (.ref f_are_edges) = true)
    (a_neighbours_of : PySem.W.nsIn K mainGlobals "neighbours_of" = some (some (.ref f_neighbours_of)))
    (l_neighbours_of : K.lookup f_neighbours_of = some ⟨oc_neighbours_of, od_neighbours_of, .func (PySem.W.fnOf "neighbours_of" "neighbours_of" (defArgs s_neighbours_of) (defBody s_neighbours_of) (defScope s_neighbours_of) .none kV_neighbours_of dc_neighbours_of pm_neighbours_of an_neighbours_of cd_neighbours_of ct_neighbours_of), sl_neighbours_of⟩)
    (c_neighbours_of : PySem.W.codeIn K cd_neighbours_of "neighbours_of" = true)
    (k_neighbours_of : PySem.W.keepIn K (.ref f_neighbours_of) = true)
    (a_read_graph : PySem.W.nsIn K mainGlobals "read_graph" = some (some (.ref f_read_graph)))
    (l_read_graph : K.lookup f_read_graph = some ⟨oc_read_graph, od_read_graph, .func (PySem.W.fnOf "read_graph" "read_graph" (defArgs s_read_graph) (defBody s_read_graph) (defScope s_read_graph) .none kV_read_graph dc_read_graph pm_read_graph an_read_graph cd_read_graph ct_read_graph), sl_read_graph⟩)
    (c_read_graph : PySem.W.codeIn K cd_read_graph "read_graph" = true)
    (k_read_graph : PySem.W.keepIn K (.ref f_read_graph) = true)
    (a_read_pebbles : PySem.W.nsIn K mainGlobals "read_pebbles" = some (some (.ref f_read_pebbles)))
    (l_read_pebbles : K.lookup f_read_pebbles = some ⟨oc_read_pebbles, od_read_pebbles, .func (PySem.W.fnOf "read_pebbles" "read_pebbles" (defArgs s_read_pebbles) (defBody s_read_pebbles) (defScope s_read_pebbles) .none kV_read_pebbles dc_read_pebbles pm_read_pebbles an_read_pebbles cd_read_pebbles ct_read_pebbles), sl_read_pebbles⟩)
    (c_read_pebbles : PySem.W.codeIn K cd_read_pebbles "read_pebbles" = true)
    (k_read_pebbles : PySem.W.keepIn K (.ref f_read_pebbles) = true)
    (a_moved : PySem.W.nsIn K mainGlobals "moved" = some (some (.ref f_moved)))
    (l_moved : K.lookup f_moved = some ⟨oc_moved, od_moved, .func (PySem.W.fnOf "moved" "moved" (defArgs s_moved) (defBody s_moved) (defScope s_moved) .none kV_moved dc_moved pm_moved an_moved cd_moved ct_moved), sl_moved⟩)
    (c_moved : PySem.W.codeIn K cd_moved "moved" = true)
    (k_moved : PySem.W.keepIn K (.ref f_moved) = true)
    (a_possible_moves : PySem.W.nsIn K mainGlobals "possible_moves" = some (some (.ref f_possible_moves)))
    (l_possible_moves : K.lookup f_possible_moves = some ⟨oc_possible_moves, od_possible_moves, .func (PySem.W.fnOf "possible_moves" "possible_moves" (defArgs s_possible_moves) (defBody s_possible_moves) (defScope s_possible_moves) .none kV_possible_moves dc_possible_moves pm_possible_moves an_possible_moves cd_possible_moves ct_possible_moves), sl_possible_moves⟩)
    (c_possible_moves : PySem.W.codeIn K cd_possible_moves "possible_moves" = true)
    (k_possible_moves : PySem.W.keepIn K (.ref f_possible_moves) = true)
    (a_all_rows : PySem.W.nsIn K mainGlobals "all_rows" = some (some (.ref f_all_rows)))
    (l_all_rows : K.lookup f_all_rows = some ⟨oc_all_rows, od_all_rows, .func (PySem.W.fnOf "all_rows" "all_rows" (defArgs s_all_rows) (defBody s_all_rows) (defScope s_all_rows) .none kV_all_rows dc_all_rows pm_all_rows an_all_rows cd_all_rows ct_all_rows), sl_all_rows⟩)
    (c_all_rows : PySem.W.codeIn K cd_all_rows "all_rows" = true)
    (k_all_rows : PySem.W.keepIn K (.ref f_all_rows) = true)
    (a_most_at : PySem.W.nsIn K mainGlobals "most_at" = some (some (.ref f_most_at)))
    (l_most_at : K.lookup f_most_at = some ⟨oc_most_at, od_most_at, .func (PySem.W.fnOf "most_at" "most_at" (defArgs s_most_at) (defBody s_most_at) (defScope s_most_at) .none kV_most_at dc_most_at pm_most_at an_most_at cd_most_at ct_most_at), sl_most_at⟩)
    (c_most_at : PySem.W.codeIn K cd_most_at "most_at" = true)
    (k_most_at : PySem.W.keepIn K (.ref f_most_at) = true)
    (a_reached_vertices : PySem.W.nsIn K mainGlobals "reached_vertices" = some (some (.ref f_reached_vertices)))
    (l_reached_vertices : K.lookup f_reached_vertices = some ⟨oc_reached_vertices, od_reached_vertices, .func (PySem.W.fnOf "reached_vertices" "reached_vertices" (defArgs s_reached_vertices) (defBody s_reached_vertices) (defScope s_reached_vertices) .none kV_reached_vertices dc_reached_vertices pm_reached_vertices an_reached_vertices cd_reached_vertices ct_reached_vertices), sl_reached_vertices⟩)
    (c_reached_vertices : PySem.W.codeIn K cd_reached_vertices "reached_vertices" = true)
    (k_reached_vertices : PySem.W.keepIn K (.ref f_reached_vertices) = true)
    (a_reachable_vertices : PySem.W.nsIn K mainGlobals "reachable_vertices" = some (some (.ref f_reachable_vertices)))
    (l_reachable_vertices : K.lookup f_reachable_vertices = some ⟨oc_reachable_vertices, od_reachable_vertices, .func (PySem.W.fnOf "reachable_vertices" "reachable_vertices" (defArgs s_reachable_vertices) (defBody s_reachable_vertices) (defScope s_reachable_vertices) .none kV_reachable_vertices dc_reachable_vertices pm_reachable_vertices an_reachable_vertices cd_reachable_vertices ct_reachable_vertices), sl_reachable_vertices⟩)
    (c_reachable_vertices : PySem.W.codeIn K cd_reachable_vertices "reachable_vertices" = true)
    (k_reachable_vertices : PySem.W.keepIn K (.ref f_reachable_vertices) = true)
    (n_OUT_OF_LIMITS : PySem.W.nsIn K mainGlobals "OUT_OF_LIMITS" = some (some (.int (-22) tk_OUT_OF_LIMITS)))
    (n_MOST_VERTICES : PySem.W.nsIn K mainGlobals "MOST_VERTICES" = some (some (.int 5 tk_MOST_VERTICES)))
    (n_MOST_PEBBLES : PySem.W.nsIn K mainGlobals "MOST_PEBBLES" = some (some (.int 12 tk_MOST_PEBBLES)))
    (n_COST : PySem.W.nsIn K mainGlobals "COST" = some (some (.int 2 tk_COST)))
    (z_len : PySem.W.nsIn K mainGlobals "len" = some none)
    (z_range : PySem.W.nsIn K mainGlobals "range" = some none)
    (z_all : PySem.W.nsIn K mainGlobals "all" = some none)
    (z_zip : PySem.W.nsIn K mainGlobals "zip" = some none)
    (z_tuple : PySem.W.nsIn K mainGlobals "tuple" = some none)
    (z_list : PySem.W.nsIn K mainGlobals "list" = some none)
    (z_sum : PySem.W.nsIn K mainGlobals "sum" = some none)
    (z_max : PySem.W.nsIn K mainGlobals "max" = some none)
    (z_ValueError : PySem.W.nsIn K mainGlobals "ValueError" = some none)
    : ∃ fd : FuncData, (∀ (s : Shared) (us : List Value), us.length = (["vertex_count", "edges", "pebbles"] : List Str).length → BindsTo s fd ⟨us, []⟩ ((["vertex_count", "edges", "pebbles"] : List Str).zip us)) ∧ ∀ base : Heap, K.In base → base.Ns mainGlobals mg → FnOk P w K mg base CX0 6 fa fd ["vertex_count", "edges", "pebbles"] (spTop K) := by
  have e := hfa.symm.trans (PySem.W.mg_of X G a_reachable_vertices)
  cases e
  have FI := fun_mk (st := sInit) lI cI kI
  have bI := FI.binds (ps := ["self", "code"]) fun _ _ _ _ _ _ us hl => match us, hl with | [_, _], _ => rfl
  have F_need := fun_mk (st := s_need) l_need c_need k_need
  have b_need := F_need.binds (ps := ["truth", "code"]) fun _ _ _ _ _ _ us hl => match us, hl with | [_, _], _ => rfl
  have F_pairs_of := fun_mk (st := s_pairs_of) l_pairs_of c_pairs_of k_pairs_of
  have b_pairs_of := F_pairs_of.binds (ps := ["row"]) fun _ _ _ _ _ _ us hl => match us, hl with | [_], _ => rfl
  have F_are_edges := fun_mk (st := s_are_edges) l_are_edges c_are_edges k_are_edges
  have b_are_edges := F_are_edges.binds (ps := ["vertex_count", "edges"]) fun _ _ _ _ _ _ us hl => match us, hl with | [_, _], _ => rfl
  have F_neighbours_of := fun_mk (st := s_neighbours_of) l_neighbours_of c_neighbours_of k_neighbours_of
  have b_neighbours_of := F_neighbours_of.binds (ps := ["vertex", "pairs"]) fun _ _ _ _ _ _ us hl => match us, hl with | [_, _], _ => rfl
  have F_read_graph := fun_mk (st := s_read_graph) l_read_graph c_read_graph k_read_graph
  have b_read_graph := F_read_graph.binds (ps := ["vertex_count", "edges"]) fun _ _ _ _ _ _ us hl => match us, hl with | [_, _], _ => rfl
  have F_read_pebbles := fun_mk (st := s_read_pebbles) l_read_pebbles c_read_pebbles k_read_pebbles
  have b_read_pebbles := F_read_pebbles.binds (ps := ["graph", "pebbles"]) fun _ _ _ _ _ _ us hl => match us, hl with | [_, _], _ => rfl
  have F_moved := fun_mk (st := s_moved) l_moved c_moved k_moved
  have b_moved := F_moved.binds (ps := ["configuration", "source", "target"]) fun _ _ _ _ _ _ us hl => match us, hl with | [_, _, _], _ => rfl
  have F_possible_moves := fun_mk (st := s_possible_moves) l_possible_moves c_possible_moves k_possible_moves
  have b_possible_moves := F_possible_moves.binds (ps := ["graph", "configuration"]) fun _ _ _ _ _ _ us hl => match us, hl with | [_, _], _ => rfl
  have F_all_rows := fun_mk (st := s_all_rows) l_all_rows c_all_rows k_all_rows
  have b_all_rows := F_all_rows.binds (ps := ["graph", "start"]) fun _ _ _ _ _ _ us hl => match us, hl with | [_, _], _ => rfl
  have F_most_at := fun_mk (st := s_most_at) l_most_at c_most_at k_most_at
  have b_most_at := F_most_at.binds (ps := ["rows", "target"]) fun _ _ _ _ _ _ us hl => match us, hl with | [_, _], _ => rfl
  have F_reached_vertices := fun_mk (st := s_reached_vertices) l_reached_vertices c_reached_vertices k_reached_vertices
  have b_reached_vertices := F_reached_vertices.binds (ps := ["vertex_count", "edges", "pebbles"]) fun _ _ _ _ _ _ us hl => match us, hl with | [_, _, _], _ => rfl
  have F_reachable_vertices := fun_mk (st := s_reachable_vertices) l_reachable_vertices c_reachable_vertices k_reachable_vertices
  have b_reachable_vertices := F_reachable_vertices.binds (ps := ["vertex_count", "edges", "pebbles"]) fun _ _ _ _ _ _ us hl => match us, hl with | [_, _, _], _ => rfl
  have rk : Rk K mg C fI :=
    { gC := PySem.W.mg_of X G aC, ox := { cls := ⟨nm, q0, N0, bs0, _, sn0, sub0, ab0, col0, dd0, m0, m1, m2, m3, m5, xL, by decide +kernel⟩, sa := sa, exC := eC, tyC := tC, kC := kC }, iC := aI, tI := tI, noC := nc, vV := vV,
      xf := ⟨ga, gg, eC, hC⟩, te := exm_self eC iC tC sC, ini := ⟨_, FI, bI⟩ }
  have T : Txt K mg C fI :=
    { rk := rk
      d_need := ⟨_, _, PySem.W.mg_of X G a_need, F_need, b_need⟩
      d_pairs_of := ⟨_, _, PySem.W.mg_of X G a_pairs_of, F_pairs_of, b_pairs_of⟩
      d_are_edges := ⟨_, _, PySem.W.mg_of X G a_are_edges, F_are_edges, b_are_edges⟩
      d_neighbours_of := ⟨_, _, PySem.W.mg_of X G a_neighbours_of, F_neighbours_of, b_neighbours_of⟩
      d_read_graph := ⟨_, _, PySem.W.mg_of X G a_read_graph, F_read_graph, b_read_graph⟩
      d_read_pebbles := ⟨_, _, PySem.W.mg_of X G a_read_pebbles, F_read_pebbles, b_read_pebbles⟩
      d_moved := ⟨_, _, PySem.W.mg_of X G a_moved, F_moved, b_moved⟩
      d_possible_moves := ⟨_, _, PySem.W.mg_of X G a_possible_moves, F_possible_moves, b_possible_moves⟩
      d_all_rows := ⟨_, _, PySem.W.mg_of X G a_all_rows, F_all_rows, b_all_rows⟩
      d_most_at := ⟨_, _, PySem.W.mg_of X G a_most_at, F_most_at, b_most_at⟩
      d_reached_vertices := ⟨_, _, PySem.W.mg_of X G a_reached_vertices, F_reached_vertices, b_reached_vertices⟩
      d_reachable_vertices := ⟨_, _, PySem.W.mg_of X G a_reachable_vertices, F_reachable_vertices, b_reachable_vertices⟩
      c_OUT_OF_LIMITS := ⟨_, PySem.W.mg_of X G n_OUT_OF_LIMITS⟩
      c_MOST_VERTICES := ⟨_, PySem.W.mg_of X G n_MOST_VERTICES⟩
      c_MOST_PEBBLES := ⟨_, PySem.W.mg_of X G n_MOST_PEBBLES⟩
      c_COST := ⟨_, PySem.W.mg_of X G n_COST⟩
      m_len := PySem.W.mg_none_of X G z_len
      m_range := PySem.W.mg_none_of X G z_range
      m_all := PySem.W.mg_none_of X G z_all
      m_zip := PySem.W.mg_none_of X G z_zip
      m_tuple := PySem.W.mg_none_of X G z_tuple
      m_list := PySem.W.mg_none_of X G z_list
      m_sum := PySem.W.mg_none_of X G z_sum
      m_max := PySem.W.mg_none_of X G z_max
      m_ValueError := PySem.W.mg_none_of X G z_ValueError }
  exact ⟨_, fun s us hu => match us, hu with | [_, _, _], _ => .of_eq rfl, fun base _ _ => ok_reachable_vertices T F_reachable_vertices⟩

end HP
open PySem PySem.W PyProof.Rows
set_option maxRecDepth 100000 in
set_option maxHeartbeats 8000000 in
theorem PySem.Challenge.cw_halvedpebbles_s04_reachable_vertices_holds : PySem.Challenge.rw_halvedpebbles_s04_reachable_vertices.Holds := by
  w_on; k_headS; (case hw => exact ⟨[.int 1, .list [], .list []], by decide +kernel, by decide +kernel⟩)
  k_fillS
  refine L2.walk_specK (r := PySem.Challenge.rw_halvedpebbles_s04_reachable_vertices) (k := 6) (CX := L2.CX0) (ps := ["vertex_count", "edges", "pebbles"]) (sp := HP.spTop) (by decide +kernel) rfl rfl ⟨rfl, by decide, by decide⟩ (fun w h Y => PySem.W.kIn_of Y) ?F ?S (fun _ _ _ _ z => z)
  case F =>
    intro w mg fa h Y KX G hmg
    refine' HP.all_mk KX G hmg ?aC ?xL ?sa ?ga ?gg ?nc ?aI ?tI ?lI ?cI ?kI ?kC ?eC ?tC ?hC ?iC ?sC ?vV ?a_need ?l_need ?c_need ?k_need ?a_pairs_of ?l_pairs_of ?c_pairs_of ?k_pairs_of ?a_are_edges ?l_are_edges ?c_are_edges ?k_are_edges ?a_neighbours_of ?l_neighbours_of ?c_neighbours_of ?k_neighbours_of ?a_read_graph ?l_read_graph ?c_read_graph ?k_read_graph ?a_read_pebbles ?l_read_pebbles ?c_read_pebbles ?k_read_pebbles ?a_moved ?l_moved ?c_moved ?k_moved ?a_possible_moves ?l_possible_moves ?c_possible_moves ?k_possible_moves ?a_all_rows ?l_all_rows ?c_all_rows ?k_all_rows ?a_most_at ?l_most_at ?c_most_at ?k_most_at ?a_reached_vertices ?l_reached_vertices ?c_reached_vertices ?k_reached_vertices ?a_reachable_vertices ?l_reachable_vertices ?c_reachable_vertices ?k_reachable_vertices ?n_OUT_OF_LIMITS ?n_MOST_VERTICES ?n_MOST_PEBBLES ?n_COST ?z_len ?z_range ?z_all ?z_zip ?z_tuple ?z_list ?z_sum ?z_max ?z_ValueError
    (case aC => k_is)
    (case xL => k_is)
    (case sa => k_is)
    (case ga => k_is)
    (case gg => k_is)
    (case nc => k_is)
    (case aI => k_is)
    (case tI => k_is)
    (case lI => k_is)
    (case cI => k_is)
    (case kI => k_is)
    (case kC => k_is)
    (case eC => k_is)
    (case tC => k_is)
    (case hC => k_is)
    (case iC => k_is)
    (case sC => first | rfl | k_is)
    (case vV => first | k_is | decide +kernel | rfl)
    (case a_need => k_is)
    (case l_need => k_is)
    (case c_need => k_is)
    (case k_need => k_is)
    (case a_pairs_of => k_is)
    (case l_pairs_of => k_is)
    (case c_pairs_of => k_is)
    (case k_pairs_of => k_is)
    (case a_are_edges => k_is)
    (case l_are_edges => k_is)
    (case c_are_edges => k_is)
    (case k_are_edges => k_is)
    (case a_neighbours_of => k_is)
    (case l_neighbours_of => k_is)
    (case c_neighbours_of => k_is)
    (case k_neighbours_of => k_is)
    (case a_read_graph => k_is)
    (case l_read_graph => k_is)
    (case c_read_graph => k_is)
    (case k_read_graph => k_is)
    (case a_read_pebbles => k_is)
    (case l_read_pebbles => k_is)
    (case c_read_pebbles => k_is)
    (case k_read_pebbles => k_is)
    (case a_moved => k_is)
    (case l_moved => k_is)
    (case c_moved => k_is)
    (case k_moved => k_is)
    (case a_possible_moves => k_is)
    (case l_possible_moves => k_is)
    (case c_possible_moves => k_is)
    (case k_possible_moves => k_is)
    (case a_all_rows => k_is)
    (case l_all_rows => k_is)
    (case c_all_rows => k_is)
    (case k_all_rows => k_is)
    (case a_most_at => k_is)
    (case l_most_at => k_is)
    (case c_most_at => k_is)
    (case k_most_at => k_is)
    (case a_reached_vertices => k_is)
    (case l_reached_vertices => k_is)
    (case c_reached_vertices => k_is)
    (case k_reached_vertices => k_is)
    (case a_reachable_vertices => k_is)
    (case l_reachable_vertices => k_is)
    (case c_reachable_vertices => k_is)
    (case k_reachable_vertices => k_is)
    (case n_OUT_OF_LIMITS => k_is)
    (case n_MOST_VERTICES => k_is)
    (case n_MOST_PEBBLES => k_is)
    (case n_COST => k_is)
    (case z_len => k_is)
    (case z_range => k_is)
    (case z_all => k_is)
    (case z_zip => k_is)
    (case z_tuple => k_is)
    (case z_list => k_is)
    (case z_sum => k_is)
    (case z_max => k_is)
    (case z_ValueError => k_is)
  case S =>
    intro K H xs a hO hwi hask hx
    obtain ⟨vc, es, peb, u⟩ := a
    cases hx with
    | cons h0 r0 =>
      cases r0 with
      | cons h1 r1 =>
        cases r1 with
        | cons h2 r2 =>
          cases r2
          cases h0
          cases h1 with
          | lst hs1 ha1 =>
            cases h2 with
            | lst hs2 ha2 =>
              have e1 := L2.ints_dw es _ ha1
              have e2 := L2.ints_dw peb _ ha2
              subst e1 e2
              have q : (Codec.inInt 0 4294967295 vc && ((Codec.inLen 0 22 es && es.all (Codec.inInt 0 4294967295)) && ((Codec.inLen 0 7 peb && peb.all (Codec.inInt 0 4294967295)) && true))) = true := hwi
              simp only [Bool.and_eq_true] at q
              obtain ⟨q0, ⟨p1, q1⟩, ⟨p2, q2⟩, _⟩ := q
              have n0 := HP.in_nonneg q0
              have n1 := HP.all_nonneg q1
              have n2 := HP.all_nonneg q2
              refine ⟨vc.toNat, HP.nats es, HP.nats peb, ⟨_, _, ?_, by rw [HP.vn_nats n1]; exact hs1, by rw [HP.vn_nats n2]; exact hs2, ?_⟩, fun H' t ht => .lst (L2.SqL.of ht) (L2.dw_ints _)⟩
              · rw [Int.toNat_of_nonneg n0]
              · rw [HP.nats_len]; have := (Codec.inNat_iff.mp p1).2; omega
#print axioms PySem.Challenge.cw_halvedpebbles_s04_reachable_vertices_holds
