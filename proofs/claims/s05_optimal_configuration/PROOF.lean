import PyProof.Rows.All
import Wide.All
import OpenK.AllK
import Wide.FinOn
import PyProof.EqAt
import PyProof.EqKinds
import PyProof.TupleCall
import Open.SpecLaws
import KE.OsGo
import KE.KTupSum
import KE.GoesMore
import KE.GoesEnum
import HandS.ForSpec
import HandS.Comp
import HandS.Dict
import HandS.Iter
import HandS.Walk
import HandS.Conv
import HandS.Deep
import HandS.TupAny
import HandS.TupLen
import HandS.ExcInit
import HandS.ExcField
import PySem.Challenge.RW_neighbourpairs_s05_optimal_configuration
set_option Elab.async false
set_option linter.all false
set_option maxRecDepth 100000
set_option maxHeartbeats 4000000
/-! The mirror: the program's functions as plain Lean functions; that what they read is what the specification reads. -/
namespace Rub
abbrev Cfg := List Nat
abbrev Mv := Nat × Nat × Nat
abbrev Gr := List (List Nat)

/-! ### edges -/
def edgesOf : List Nat → List (Nat × Nat)
  | u :: v :: r => (u, v) :: edgesOf r
  | _ => []
def ltP (p q : Nat × Nat) : Bool := decide (p.1 < q.1) || (p.1 == q.1 && decide (p.2 < q.2))
def isRising (ps : List (Nat × Nat)) : Bool := (ps.zip (ps.drop 1)).all fun x => ltP x.1 x.2
def inRange (n : Nat) (ps : List (Nat × Nat)) : Bool := ps.all fun p => decide (p.1 < p.2) && decide (p.2 < n)
def areEdges (n : Nat) (es : List Nat) : Bool := es.length % 2 == 0 && (inRange n (edgesOf es) && isRising (edgesOf es))
def adj (ps : List (Nat × Nat)) (v o : Nat) : Bool := ps.contains (v, o) || ps.contains (o, v)
def nbrs (n : Nat) (ps : List (Nat × Nat)) (v : Nat) : List Nat := (List.range n).filter fun o => adj ps v o
def graphOf (n : Nat) (ps : List (Nat × Nat)) : Gr := (List.range n).map fun v => nbrs n ps v
def graphOk (n : Nat) (es : List Nat) : Bool := (decide (1 ≤ n) && decide (n ≤ 5)) && areEdges n es

theorem rising_cons (p q : Nat × Nat) (r : List (Nat × Nat)) : isRising (p :: q :: r) = (ltP p q && isRising (q :: r)) := rfl
theorem rising_one (p : Nat × Nat) : isRising [p] = true := rfl
theorem parseEdges_eq (n : Nat) : ∀ es : List Nat, Ks577.parseEdges n es = if areEdges n es = true then some (edgesOf es) else none
  | [] => by simp [Ks577.parseEdges, areEdges, edgesOf, inRange, isRising]
  | [u] => by simp [Ks577.parseEdges, areEdges]
  | u :: v :: rest => by
    have ih := parseEdges_eq n rest
    unfold Ks577.parseEdges
    by_cases h1 : v ≤ u ∨ n ≤ v
    · rw [if_pos h1]
      have : areEdges n (u :: v :: rest) = false := by
        unfold areEdges
        have : inRange n (edgesOf (u :: v :: rest)) = false := by
          show ((decide (u < v) && decide (v < n)) && inRange n (edgesOf rest)) = false
          rcases h1 with h | h
          · rw [decide_eq_false (show ¬ u < v by omega)]; rfl
          · rw [decide_eq_false (show ¬ v < n by omega), Bool.and_false]; rfl
        rw [this, Bool.false_and, Bool.and_false]
      rw [this]; rfl
    · rw [if_neg h1, ih]
      have hin : inRange n (edgesOf (u :: v :: rest)) = inRange n (edgesOf rest) := by
        show ((decide (u < v) && decide (v < n)) && inRange n (edgesOf rest)) = _
        rw [decide_eq_true (show u < v by omega), decide_eq_true (show v < n by omega)]; rfl
      have hlen : (u :: v :: rest).length % 2 = rest.length % 2 := by
        show (rest.length + 1 + 1) % 2 = _
        omega
      by_cases h2 : areEdges n rest = true
      · rw [if_pos h2]
        have h2' := h2
        unfold areEdges at h2'
        rw [Bool.and_eq_true, Bool.and_eq_true] at h2'
        obtain ⟨a1, a2, a3⟩ := h2'
        have hE : areEdges n (u :: v :: rest) = isRising (edgesOf (u :: v :: rest)) := by
          unfold areEdges
          rw [hlen, hin, a1, a2]; rfl
        rw [hE]
        show (match edgesOf rest with
          | [] => some [(u, v)]
          | next :: _ => if u < next.1 ∨ (u = next.1 ∧ v < next.2) then some ((u, v) :: edgesOf rest) else none) = if isRising ((u, v) :: edgesOf rest) = true then some ((u, v) :: edgesOf rest) else none
        cases hp : edgesOf rest with
        | nil => rfl
        | cons q r =>
          rw [hp] at a3
          rw [rising_cons, a3, Bool.and_true]
          by_cases h3 : u < q.1 ∨ (u = q.1 ∧ v < q.2)
          · have : ltP (u, v) q = true := by
              unfold ltP
              rcases h3 with h | ⟨h, h'⟩
              · simp [h]
              · simp [h, h']
            rw [this]; simp [h3]
          · have : ltP (u, v) q = false := by
              unfold ltP
              have : ¬ u < q.1 := fun h => h3 (.inl h)
              by_cases e : u = q.1
              · have : ¬ v < q.2 := fun h => h3 (.inr ⟨e, h⟩)
                simp; omega
              · simp [e]; omega
            rw [this]; simp [h3]
      · rw [if_neg h2]
        have : areEdges n (u :: v :: rest) = false := by
          have h2' : areEdges n rest = false := by simpa using h2
          unfold areEdges at h2' ⊢
          rw [hlen, hin]
          rw [Bool.and_eq_false_iff] at h2'
          rcases h2' with h | h
          · rw [h]; rfl
          · rw [Bool.and_eq_false_iff] at h
            rcases h with h | h
            · rw [h]; simp
            · have : isRising (edgesOf (u :: v :: rest)) = false := by
                show isRising ((u, v) :: edgesOf rest) = false
                cases hp : edgesOf rest with
                | nil => rw [hp] at h; exact absurd h (by decide)
                | cons q r => rw [hp] at h; rw [rising_cons, h, Bool.and_false]
              rw [this]; simp
        rw [this]; rfl
theorem parseGraph_eq (n : Nat) (es : List Nat) : Ks577.parseGraph n es = if graphOk n es = true then some ⟨n, edgesOf es⟩ else none := by
  unfold Ks577.parseGraph graphOk
  by_cases h : n < 1 ∨ Ks577.maxVertices < n
  · rw [if_pos h]
    have : (decide (1 ≤ n) && decide (n ≤ 5)) = false := by
      unfold Ks577.maxVertices at h
      rcases h with h | h
      · rw [decide_eq_false (by omega)]; rfl
      · rw [decide_eq_false (show ¬ n ≤ 5 by omega), Bool.and_false]
    rw [this]; rfl
  · rw [if_neg h, parseEdges_eq]
    unfold Ks577.maxVertices at h
    rw [decide_eq_true (show 1 ≤ n by omega), decide_eq_true (show n ≤ 5 by omega)]
    cases areEdges n es <;> rfl
theorem graphOk_le {n : Nat} {es : List Nat} (h : graphOk n es = true) : 1 ≤ n ∧ n ≤ 5 := by
  unfold graphOk at h
  simp only [Bool.and_eq_true, decide_eq_true_eq] at h
  exact h.1
theorem isAdjacent_iff {n : Nat} {ps : List (Nat × Nat)} {u v : Nat} : Ks577.isAdjacent ⟨n, ps⟩ u v = adj ps u v := by
  rw [Bool.eq_iff_iff]
  unfold Ks577.isAdjacent adj
  simp only [List.any_eq_true, Bool.or_eq_true, Bool.and_eq_true, beq_iff_eq, List.contains_eq_mem, decide_eq_true_eq]
  constructor
  · rintro ⟨⟨a, b⟩, hm, ⟨h1, h2⟩ | ⟨h1, h2⟩⟩
    · exact .inl (by rw [← h1, ← h2]; exact hm)
    · exact .inr (by rw [← h1, ← h2]; exact hm)
  · rintro (h | h)
    · exact ⟨_, h, .inl ⟨rfl, rfl⟩⟩
    · exact ⟨_, h, .inr ⟨rfl, rfl⟩⟩
theorem adj_comm (ps : List (Nat × Nat)) (u v : Nat) : adj ps u v = adj ps v u := by
  unfold adj
  exact Bool.or_comm _ _
theorem mem_nbrs {n : Nat} {ps : List (Nat × Nat)} {v o : Nat} : o ∈ nbrs n ps v ↔ o < n ∧ adj ps v o = true := by
  unfold nbrs
  rw [List.mem_filter, List.mem_range]
theorem graphOf_length (n : Nat) (ps : List (Nat × Nat)) : (graphOf n ps).length = n := by simp [graphOf]
theorem graphOf_get {n : Nat} {ps : List (Nat × Nat)} {v : Nat} (h : v < n) : (graphOf n ps)[v]? = some (nbrs n ps v) := by
  simp [graphOf, h]

/-! ### moves -/
def hasP (c : Cfg) (m : Mv) : Bool := if m.1 = m.2.1 then decide (2 ≤ Ks577.pebblesAt c m.1) else decide (1 ≤ Ks577.pebblesAt c m.1) && decide (1 ≤ Ks577.pebblesAt c m.2.1)
def mvd (c : Cfg) (m : Mv) : Cfg := Ks581.move c m.1 m.2.1 m.2.2
def movesAt (near : List Nat) (t : Nat) : List Mv := near.flatMap fun f => (near.filter fun s => decide (f ≤ s)).map fun s => (f, s, t)
def rubMoves (gr : Gr) : List Mv := gr.zipIdx.flatMap fun p => movesAt p.1 p.2
def pebMoves (gr : Gr) : List Mv := (rubMoves gr).filter fun m => m.1 == m.2.1
def allBehind (c : Cfg) (ms : List Mv) : List Cfg := (ms.filter fun m => hasP c m).map fun m => mvd c m

theorem mem_movesAt {near : List Nat} {t : Nat} {m : Mv} : m ∈ movesAt near t ↔ m.1 ∈ near ∧ m.2.1 ∈ near ∧ m.1 ≤ m.2.1 ∧ m.2.2 = t := by
  obtain ⟨f, s, t'⟩ := m
  unfold movesAt
  simp only [List.mem_flatMap, List.mem_map, List.mem_filter, decide_eq_true_eq, Prod.mk.injEq]
  constructor
  · rintro ⟨a, ha, b, ⟨hb, hle⟩, h1, h2, h3⟩
    subst h1 h2 h3
    exact ⟨ha, hb, hle, rfl⟩
  · rintro ⟨h1, h2, h3, h4⟩
    exact ⟨f, h1, s, ⟨h2, h3⟩, rfl, rfl, h4.symm⟩
theorem mem_zipIdx_of {α : Type} {l : List α} {i : Nat} {x : α} : (x, i) ∈ l.zipIdx ↔ l[i]? = some x := by
  rw [List.mem_zipIdx_iff_getElem?]
theorem mem_rubMoves {n : Nat} {ps : List (Nat × Nat)} {m : Mv} : m ∈ rubMoves (graphOf n ps) ↔ m.2.2 < n ∧ m.1 < n ∧ m.2.1 < n ∧ m.1 ≤ m.2.1 ∧ adj ps m.2.2 m.1 = true ∧ adj ps m.2.2 m.2.1 = true := by
  unfold rubMoves
  rw [List.mem_flatMap]
  constructor
  · rintro ⟨⟨near, t⟩, hm, h⟩
    rw [mem_zipIdx_of] at hm
    have ht : t < n := by
      have := (List.getElem?_eq_some_iff.mp hm).1
      rwa [graphOf_length] at this
    rw [graphOf_get ht] at hm
    have e : nbrs n ps t = near := Option.some.inj hm
    subst e
    obtain ⟨h1, h2, h3, h4⟩ := mem_movesAt.mp h
    rw [mem_nbrs] at h1 h2
    have h4' : m.2.2 = t := h4
    rw [h4']
    exact ⟨ht, h1.1, h2.1, h3, h1.2, h2.2⟩
  · rintro ⟨ht, hf, hs, hle, a1, a2⟩
    refine ⟨(nbrs n ps m.2.2, m.2.2), ?_, ?_⟩
    · rw [mem_zipIdx_of, graphOf_get ht]
    · exact mem_movesAt.mpr ⟨mem_nbrs.mpr ⟨hf, a1⟩, mem_nbrs.mpr ⟨hs, a2⟩, hle, rfl⟩
/-- what the specification calls a successor -/
theorem mem_behind {n : Nat} {ps : List (Nat × Nat)} {c d : Cfg} : d ∈ allBehind c (rubMoves (graphOf n ps)) ↔ d ∈ Ks581.successors ⟨n, ps⟩ c := by
  unfold allBehind Ks581.successors Ks581.possibleMoves
  simp only [List.mem_map, List.mem_filter, List.mem_flatMap, List.mem_range, Bool.and_eq_true, decide_eq_true_eq]
  constructor
  · rintro ⟨⟨f, s, t⟩, ⟨hm, hp⟩, rfl⟩
    obtain ⟨ht, hf, hs, hle, a1, a2⟩ := mem_rubMoves.mp hm
    refine ⟨(f, s, t), ⟨f, hf, s, hs, t, ⟨ht, hle, ?_⟩, rfl⟩, rfl⟩
    unfold Ks581.canMove
    rw [isAdjacent_iff, isAdjacent_iff, adj_comm ps f t, adj_comm ps s t]
    rw [show adj ps t f = true from a1, show adj ps t s = true from a2]
    exact hp
  · rintro ⟨⟨f, s, t⟩, ⟨f', hf, s', hs, t', ⟨ht, hle, hc⟩, e⟩, rfl⟩
    cases e
    refine ⟨(f, s, t), ⟨mem_rubMoves.mpr ⟨ht, hf, hs, hle, ?_, ?_⟩, ?_⟩, rfl⟩
    all_goals
      unfold Ks581.canMove at hc
      rw [isAdjacent_iff, isAdjacent_iff, adj_comm ps f t, adj_comm ps s t, Bool.and_eq_true, Bool.and_eq_true] at hc
    · exact hc.1.1
    · exact hc.1.2
    · exact hc.2
theorem move_length (c : Cfg) (f s t : Nat) : (Ks581.move c f s t).length = c.length := by
  simp [Ks581.move, Ks581.removeOne]
theorem mvd_length (c : Cfg) (m : Mv) : (mvd c m).length = c.length := move_length ..
end Rub
/-! Levels: what min_moves and max_pebbles_at compute is what the specification tells. -/
namespace Rub
def addNew (acc : List Cfg) (x : Cfg) : List Cfg := if x ∈ acc then acc else acc ++ [x]
def dedup (l : List Cfg) : List Cfg := l.foldl addNew []
theorem mem_addNew {acc : List Cfg} {x y : Cfg} : y ∈ addNew acc x ↔ y ∈ acc ∨ y = x := by
  unfold addNew
  split
  · rename_i h
    constructor
    · exact .inl
    · rintro (h' | rfl) <;> assumption
  · simp
theorem mem_foldl_addNew {y : Cfg} : ∀ (l acc : List Cfg), y ∈ l.foldl addNew acc ↔ y ∈ acc ∨ y ∈ l
  | [], acc => by simp
  | x :: l, acc => by
    rw [List.foldl_cons, mem_foldl_addNew l, mem_addNew, List.mem_cons, or_assoc]
theorem mem_dedup {l : List Cfg} {y : Cfg} : y ∈ dedup l ↔ y ∈ l := by
  unfold dedup
  rw [mem_foldl_addNew]
  simp
def nextLevel (level : List Cfg) (ms : List Mv) : List Cfg := dedup (level.flatMap fun c => allBehind c ms)
def lev (ms : List Mv) (s : Cfg) : Nat → List Cfg
  | 0 => [s]
  | i + 1 => nextLevel (lev ms s i) ms
def allLevels (s : Cfg) (ms : List Mv) : List (List Cfg) := (List.range (s.sum + 1)).map (lev ms s)
def hasLevel (t count : Nat) (level : List Cfg) : Bool := level.any fun c => decide (count ≤ Ks577.pebblesAt c t)
def leastMoves (levels : List (List Cfg)) (t count : Nat) : Option Nat := levels.findIdx? (hasLevel t count)
def bestOf (t : Nat) (best : Nat) (level : List Cfg) : Nat := (level.map fun c => Ks577.pebblesAt c t).foldl max best
def mostPebbles (levels : List (List Cfg)) (t : Nat) : Nat := levels.foldl (bestOf t) 0

theorem any_congr_mem {α : Type} {l l' : List α} {p : α → Bool} (h : ∀ x, x ∈ l ↔ x ∈ l') : l.any p = l'.any p := by
  rw [Bool.eq_iff_iff, List.any_eq_true, List.any_eq_true]
  constructor
  · rintro ⟨x, hx, hp⟩; exact ⟨x, (h x).mp hx, hp⟩
  · rintro ⟨x, hx, hp⟩; exact ⟨x, (h x).mpr hx, hp⟩
theorem range_succ_map {α : Type} (M : Nat → α) (n : Nat) : (List.range (n + 1)).map M = M 0 :: (List.range n).map (fun i => M (i + 1)) := by
  rw [List.range_succ_eq_map, List.map_cons, List.map_map]
  rfl
/-- levels with the same members -/
theorem levels_find {g : Ks577.Graph} {q : Cfg → Bool} : ∀ (fuel : Nat) (L : List Cfg) (M : Nat → List Cfg), (∀ d, d ∈ M 0 ↔ d ∈ L) → (∀ i d, d ∈ M (i + 1) ↔ ∃ c ∈ M i, d ∈ Ks581.successors g c) →
    ((List.range fuel).map M).findIdx? (fun l => l.any q) = (Ks581.levelsFrom g L fuel).findIdx? (fun l => l.any q)
  | 0, L, M, h0, hs => rfl
  | fuel + 1, L, M, h0, hs => by
    rw [range_succ_map]
    unfold Ks581.levelsFrom
    by_cases hL : L.isEmpty = true
    · rw [if_pos hL]
      have eL : L = [] := List.isEmpty_iff.mp hL
      subst eL
      have hM : ∀ i d, d ∉ M i := by
        intro i
        induction i with
        | zero => intro d hd; exact absurd ((h0 d).mp hd) (by simp)
        | succ i ih =>
          intro d hd
          obtain ⟨c, hc, _⟩ := (hs i d).mp hd
          exact ih c hc
      have hn : ∀ i, M i = [] := fun i => List.eq_nil_iff_forall_not_mem.mpr (hM i)
      rw [List.findIdx?_eq_none_iff.mpr]
      · rfl
      · intro x hx
        rcases List.mem_cons.mp hx with e | hx
        · rw [e, hn]; rfl
        · obtain ⟨i, _, e⟩ := List.mem_map.mp hx
          rw [← e, hn]; rfl
    · rw [if_neg hL, List.findIdx?_cons, List.findIdx?_cons, any_congr_mem h0]
      have ih := levels_find (g := g) (q := q) fuel ((L.flatMap (Ks581.successors g)).eraseDups) (fun i => M (i + 1)) (fun d => by
        rw [hs 0 d, List.mem_eraseDups, List.mem_flatMap]
        constructor
        · rintro ⟨c, hc, hd⟩; exact ⟨c, (h0 c).mp hc, hd⟩
        · rintro ⟨c, hc, hd⟩; exact ⟨c, (h0 c).mpr hc, hd⟩) (fun i d => hs (i + 1) d)
      rw [ih]
theorem lev_succ {n : Nat} {ps : List (Nat × Nat)} {s : Cfg} (i : Nat) (d : Cfg) : d ∈ lev (rubMoves (graphOf n ps)) s (i + 1) ↔ ∃ c ∈ lev (rubMoves (graphOf n ps)) s i, d ∈ Ks581.successors ⟨n, ps⟩ c := by
  show d ∈ nextLevel _ _ ↔ _
  unfold nextLevel
  rw [mem_dedup, List.mem_flatMap]
  constructor
  · rintro ⟨c, hc, hd⟩; exact ⟨c, hc, mem_behind.mp hd⟩
  · rintro ⟨c, hc, hd⟩; exact ⟨c, hc, mem_behind.mpr hd⟩
theorem least_is {n : Nat} {ps : List (Nat × Nat)} {s : Cfg} {t count : Nat} : leastMoves (allLevels s (rubMoves (graphOf n ps))) t count = Ks581.minMoves ⟨n, ps⟩ s t count := by
  unfold leastMoves allLevels Ks581.minMoves Ks581.levels
  exact levels_find (s.sum + 1) [s] _ (fun d => Iff.rfl) (fun i d => lev_succ i d)

/-! ### the most -/
theorem foldl_max_spec : ∀ (l : List Nat) (b : Nat), (b ≤ l.foldl max b) ∧ (∀ x ∈ l, x ≤ l.foldl max b) ∧ (l.foldl max b = b ∨ l.foldl max b ∈ l)
  | [], b => ⟨Nat.le_refl _, fun x hx => absurd hx (by simp), .inl rfl⟩
  | a :: l, b => by
    obtain ⟨h1, h2, h3⟩ := foldl_max_spec l (max b a)
    rw [List.foldl_cons]
    refine ⟨Nat.le_trans (Nat.le_max_left _ _) h1, fun x hx => ?_, ?_⟩
    · rcases List.mem_cons.mp hx with rfl | hx
      · exact Nat.le_trans (Nat.le_max_right _ _) h1
      · exact h2 x hx
    · rcases h3 with h | h
      · rw [h]
        rcases Nat.le_total b a with e | e
        · rw [Nat.max_eq_right e]; exact .inr (List.mem_cons_self ..)
        · rw [Nat.max_eq_left e]; exact .inl rfl
      · exact .inr (List.mem_cons_of_mem _ h)
theorem foldl_max_unique {l : List Nat} {b m : Nat} (h1 : b ≤ m) (h2 : ∀ x ∈ l, x ≤ m) (h3 : m = b ∨ m ∈ l) : l.foldl max b = m := by
  obtain ⟨a1, a2, a3⟩ := foldl_max_spec l b
  apply Nat.le_antisymm
  · rcases a3 with h | h
    · rw [h]; exact h1
    · exact h2 _ h
  · rcases h3 with h | h
    · rw [h]; exact a1
    · exact a2 _ h
theorem foldl_max_congr {l l' : List Nat} (h : ∀ x, x ∈ l ↔ x ∈ l') : l.foldl max 0 = l'.foldl max 0 := by
  obtain ⟨a1, a2, a3⟩ := foldl_max_spec l' 0
  exact foldl_max_unique a1 (fun x hx => a2 x ((h x).mp hx)) (a3.imp id fun z => (h _).mpr z)
theorem most_flat : ∀ (levels : List (List Cfg)) (t b : Nat), levels.foldl (bestOf t) b = (levels.flatMap fun level => level.map fun d => Ks577.pebblesAt d t).foldl max b
  | [], t, b => rfl
  | L :: r, t, b => by
    rw [List.foldl_cons, most_flat r, List.flatMap_cons, List.foldl_append]
    rfl
/-- the members of the specification's levels -/
theorem levels_mem {g : Ks577.Graph} : ∀ (fuel : Nat) (L : List Cfg) (M : Nat → List Cfg), (∀ d, d ∈ M 0 ↔ d ∈ L) → (∀ i d, d ∈ M (i + 1) ↔ ∃ c ∈ M i, d ∈ Ks581.successors g c) →
    ∀ d, (∃ l ∈ (List.range fuel).map M, d ∈ l) ↔ ∃ l ∈ Ks581.levelsFrom g L fuel, d ∈ l
  | 0, L, M, h0, hs, d => Iff.rfl
  | fuel + 1, L, M, h0, hs, d => by
    rw [range_succ_map]
    unfold Ks581.levelsFrom
    by_cases hL : L.isEmpty = true
    · rw [if_pos hL]
      have eL : L = [] := List.isEmpty_iff.mp hL
      subst eL
      have hM : ∀ i d, d ∉ M i := by
        intro i
        induction i with
        | zero => intro d hd; exact absurd ((h0 d).mp hd) (by simp)
        | succ i ih =>
          intro d hd
          obtain ⟨c, hc, _⟩ := (hs i d).mp hd
          exact ih c hc
      constructor
      · rintro ⟨l, hl, hd⟩
        rcases List.mem_cons.mp hl with e | hl
        · rw [e] at hd; exact absurd hd (hM 0 d)
        · obtain ⟨i, _, e⟩ := List.mem_map.mp hl
          rw [← e] at hd; exact absurd hd (hM _ d)
      · rintro ⟨l, hl, hd⟩
        exact absurd hl (by simp)
    · rw [if_neg hL]
      have ih := levels_mem (g := g) fuel ((L.flatMap (Ks581.successors g)).eraseDups) (fun i => M (i + 1)) (fun d => by
        rw [hs 0 d, List.mem_eraseDups, List.mem_flatMap]
        constructor
        · rintro ⟨c, hc, hd⟩; exact ⟨c, (h0 c).mp hc, hd⟩
        · rintro ⟨c, hc, hd⟩; exact ⟨c, (h0 c).mpr hc, hd⟩) (fun i d => hs (i + 1) d) d
      simp only [List.mem_cons, exists_eq_or_imp]
      rw [h0 d, ih]
theorem most_is {n : Nat} {ps : List (Nat × Nat)} {s : Cfg} {t : Nat} : mostPebbles (allLevels s (rubMoves (graphOf n ps))) t = Ks581.maxPebblesAt ⟨n, ps⟩ s t := by
  unfold mostPebbles Ks581.maxPebblesAt
  rw [most_flat]
  refine foldl_max_congr fun x => ?_
  have key := levels_mem (g := ⟨n, ps⟩) (s.sum + 1) [s] (lev (rubMoves (graphOf n ps)) s) (fun d => Iff.rfl) (fun i d => lev_succ i d)
  simp only [List.mem_flatMap, List.mem_map]
  unfold Ks581.levels allLevels
  constructor
  · rintro ⟨l, hl, d, hd, e⟩
    obtain ⟨l', hl', hd'⟩ := (key d).mp ⟨l, hl, hd⟩
    exact ⟨l', hl', d, hd', e⟩
  · rintro ⟨l, hl, d, hd, e⟩
    obtain ⟨l', hl', hd'⟩ := (key d).mpr ⟨l, hl, hd⟩
    exact ⟨l', hl', d, hd', e⟩

/-! ### the answers -/
def cfgOk (n : Nat) (pb : List Nat) : Bool := pb.length == n && decide (pb.sum ≤ 12)
def minMovesL (n t count : Nat) (es pb : List Nat) : List Int :=
  if graphOk n es = true then
    if cfgOk n pb = true then
      if t < n then
        match leastMoves (allLevels pb (rubMoves (graphOf n (edgesOf es)))) t count with
        | some k => [(k : Int)]
        | none => [-33]
      else [-2]
    else [-22]
  else [-22]
def maxPebL (n t : Nat) (es pb : List Nat) : List Int :=
  if graphOk n es = true then
    if cfgOk n pb = true then
      if t < n then [(mostPebbles (allLevels pb (rubMoves (graphOf n (edgesOf es)))) t : Int)] else [-2]
    else [-22]
  else [-22]
def ofNats (l : List Nat) : List Int := l.map Int.ofNat
theorem toNat_ofNats (l : List Nat) : (ofNats l).map Int.toNat = l := by
  unfold ofNats
  rw [List.map_map]
  conv => rhs; rw [← List.map_id l]
  rfl
theorem numberI (v : Int) : Ks581Neutral.integers (Ks581.number v) = [v] := rfl
theorem min_spec (n t count : Nat) (es pb : List Nat) : PyKs581.min_moves n t count (ofNats es) (ofNats pb) = minMovesL n t count es pb := by
  show Ks581Neutral.integers (Ks581.answer (.minMoves n t count ((ofNats es).map Int.toNat) ((ofNats pb).map Int.toNat))) = _
  rw [toNat_ofNats, toNat_ofNats]
  unfold Ks581.answer Ks577.withConfiguration Ks577.withGraph minMovesL
  simp only []
  rw [parseGraph_eq]
  by_cases hg : graphOk n es = true
  · rw [if_pos hg, if_pos hg]
    simp only []
    have e : Ks577.isValidConfiguration ⟨n, edgesOf es⟩ pb = cfgOk n pb := rfl
    rw [e]
    by_cases hc : cfgOk n pb = true
    · rw [if_pos hc, if_pos hc]
      by_cases ht : t < n
      · rw [if_pos ht, if_neg (by omega), least_is]
        cases Ks581.minMoves ⟨n, edgesOf es⟩ pb t count <;> rfl
      · rw [if_neg ht, if_pos (by omega)]; rfl
    · rw [if_neg hc, if_neg hc]; rfl
  · rw [if_neg hg, if_neg hg]; rfl
theorem max_spec (n t : Nat) (es pb : List Nat) : PyKs581.max_pebbles_at n t (ofNats es) (ofNats pb) = maxPebL n t es pb := by
  show Ks581Neutral.integers (Ks581.answer (.maxPebblesAt n t ((ofNats es).map Int.toNat) ((ofNats pb).map Int.toNat))) = _
  rw [toNat_ofNats, toNat_ofNats]
  unfold Ks581.answer Ks577.withConfiguration Ks577.withGraph maxPebL
  simp only []
  rw [parseGraph_eq]
  by_cases hg : graphOk n es = true
  · rw [if_pos hg, if_pos hg]
    simp only []
    have e : Ks577.isValidConfiguration ⟨n, edgesOf es⟩ pb = cfgOk n pb := rfl
    rw [e]
    by_cases hc : cfgOk n pb = true
    · rw [if_pos hc, if_pos hc]
      by_cases ht : t < n
      · rw [if_pos ht, if_neg (by omega), most_is]; rfl
      · rw [if_neg ht, if_pos (by omega)]; rfl
    · rw [if_neg hc, if_neg hc]; rfl
  · rw [if_neg hg, if_neg hg]; rfl
end Rub
/-! What apply_moves computes is what the specification tells. -/
namespace Rub
def movesOf : List Nat → List Mv
  | a :: b :: c :: r => (a, b, c) :: movesOf r
  | _ => []
def possible (gr : Gr) (c : Cfg) (m : Mv) : Bool := (gr.getD m.2.2 []).contains m.1 && ((gr.getD m.2.2 []).contains m.2.1 && hasP c m)
def performed (gr : Gr) : Cfg → List Mv → Nat × Cfg
  | c, [] => (0, c)
  | c, m :: r => if possible gr c m = true then ((performed gr (mvd c m) r).1 + 1, (performed gr (mvd c m) r).2) else (0, c)
theorem performed_len (gr : Gr) : ∀ (ms : List Mv) (c : Cfg), (performed gr c ms).2.length = c.length
  | [], c => rfl
  | m :: r, c => by
    unfold performed
    split
    · exact (performed_len gr r (mvd c m)).trans (mvd_length c m)
    · rfl
def movesOk (n : Nat) (ns : List Nat) : Bool := (decide (ns.length ≤ 30) && ns.length % 3 == 0) && ns.all fun v => decide (v < n)
def applyL (n : Nat) (es pb mv : List Nat) : List Int :=
  if graphOk n es = true then
    if cfgOk n pb = true then
      if movesOk n mv = true then ((performed (graphOf n (edgesOf es)) pb (movesOf mv)).1 : Int) :: ofNats (performed (graphOf n (edgesOf es)) pb (movesOf mv)).2 else [-22]
    else [-22]
  else [-22]
theorem possible_is {n : Nat} {ps : List (Nat × Nat)} {c : Cfg} {f s t : Nat} (hf : f < n) (hs : s < n) (ht : t < n) : possible (graphOf n ps) c (f, s, t) = Ks581.canMove ⟨n, ps⟩ c f s t := by
  have hg : (graphOf n ps).getD t [] = nbrs n ps t := by
    rw [List.getD_eq_getElem?_getD, graphOf_get ht]; rfl
  have e1 : (nbrs n ps t).contains f = adj ps f t := by
    rw [Bool.eq_iff_iff, List.contains_iff_mem, mem_nbrs, adj_comm ps f t]
    exact ⟨fun h => h.2, fun h => ⟨hf, h⟩⟩
  have e2 : (nbrs n ps t).contains s = adj ps s t := by
    rw [Bool.eq_iff_iff, List.contains_iff_mem, mem_nbrs, adj_comm ps s t]
    exact ⟨fun h => h.2, fun h => ⟨hs, h⟩⟩
  unfold possible Ks581.canMove
  rw [isAdjacent_iff, isAdjacent_iff]
  show (((graphOf n ps).getD t []).contains f && (((graphOf n ps).getD t []).contains s && hasP c (f, s, t))) = (adj ps f t && adj ps s t && hasP c (f, s, t))
  rw [hg, e1, e2, Bool.and_assoc]
theorem performed_is {n : Nat} {ps : List (Nat × Nat)} : ∀ (ns : List Nat) (c : Cfg), (∀ v ∈ ns, v < n) → performed (graphOf n ps) c (movesOf ns) = Ks581.applyMoves ⟨n, ps⟩ c ns
  | [], c, h => rfl
  | [a], c, h => rfl
  | [a, b], c, h => rfl
  | a :: b :: d :: r, c, h => by
    have ha := h a (by simp)
    have hb := h b (by simp)
    have hd := h d (by simp)
    have ih := performed_is (ps := ps) r (mvd c (a, b, d)) (fun v hv => h v (by simp [hv]))
    show (if possible (graphOf n ps) c (a, b, d) = true then ((performed (graphOf n ps) (mvd c (a, b, d)) (movesOf r)).1 + 1, (performed (graphOf n ps) (mvd c (a, b, d)) (movesOf r)).2) else (0, c)) = _
    unfold Ks581.applyMoves
    rw [possible_is ha hb hd, ih]
    rfl
theorem apply_spec (n : Nat) (es pb mv : List Nat) : PyKs581.apply_moves n (ofNats es) (ofNats pb) (ofNats mv) = applyL n es pb mv := by
  show Ks581Neutral.integers (Ks581.answer (.applyMoves n ((ofNats es).map Int.toNat) ((ofNats pb).map Int.toNat) ((ofNats mv).map Int.toNat))) = _
  rw [toNat_ofNats, toNat_ofNats, toNat_ofNats]
  unfold Ks581.answer Ks577.withConfiguration Ks577.withGraph applyL
  simp only []
  rw [parseGraph_eq]
  by_cases hg : graphOk n es = true
  · rw [if_pos hg, if_pos hg]
    simp only []
    have e : Ks577.isValidConfiguration ⟨n, edgesOf es⟩ pb = cfgOk n pb := rfl
    rw [e]
    by_cases hc : cfgOk n pb = true
    · rw [if_pos hc, if_pos hc]
      by_cases hm : movesOk n mv = true
      · rw [if_pos hm]
        unfold movesOk at hm
        simp only [Bool.and_eq_true, decide_eq_true_eq, beq_iff_eq, List.all_eq_true] at hm
        obtain ⟨⟨h1, h2⟩, h3⟩ := hm
        rw [if_neg]
        · rw [performed_is mv pb h3]
          rfl
        · rintro (h | h | h)
          · omega
          · omega
          · rw [List.any_eq_true] at h
            obtain ⟨x, hx, hp⟩ := h
            have := h3 x hx
            have := of_decide_eq_true hp
            omega
      · rw [if_neg hm, if_pos]
        · rfl
        · unfold movesOk at hm
          by_cases h1 : 30 < mv.length
          · exact .inl h1
          · by_cases h2 : mv.length % 3 = 0
            · refine .inr (.inr ?_)
              have h3 : ¬ (mv.all fun v => decide (v < n)) = true := fun h3 => hm (by
                rw [h3, Bool.and_true, decide_eq_true (show mv.length ≤ 30 by omega)]
                simp [h2])
              rw [Bool.not_eq_true, List.all_eq_false] at h3
              obtain ⟨x, hx, hp⟩ := h3
              rw [List.any_eq_true]
              refine ⟨x, hx, decide_eq_true ?_⟩
              have : ¬ x < n := fun z => hp (decide_eq_true z)
              omega
            · exact .inr (.inl h2)
    · rw [if_neg hc, if_neg hc]; rfl
  · rw [if_neg hg, if_neg hg]; rfl
end Rub
/-! Sums, the specification's list of configurations, how many configurations there are. -/
namespace Rub
theorem sum_set_nat : ∀ (c : Cfg) (i x : Nat), i < c.length → (c.set i x).sum + c.getD i 0 = c.sum + x
  | [], i, x, h => by simp at h
  | a :: r, 0, x, h => by
    show (x :: r).sum + a = (a :: r).sum + x
    rw [List.sum_cons, List.sum_cons]
    omega
  | a :: r, i + 1, x, h => by
    have ih := sum_set_nat r i x (by simpa using h)
    show (a :: r.set i x).sum + r.getD i 0 = (a :: r).sum + x
    rw [List.sum_cons, List.sum_cons]
    omega
theorem getD_set_self {c : Cfg} {i x : Nat} (h : i < c.length) : (c.set i x).getD i 0 = x := by
  rw [List.getD_eq_getElem?_getD, List.getElem?_set_self h]
  rfl
theorem getD_set_ne {c : Cfg} {i j x : Nat} (h : i ≠ j) : (c.set i x).getD j 0 = c.getD j 0 := by
  rw [List.getD_eq_getElem?_getD, List.getElem?_set_ne h, ← List.getD_eq_getElem?_getD]
theorem hasP_first {c : Cfg} {m : Mv} (h : hasP c m = true) : 1 ≤ c.getD m.1 0 := by
  unfold hasP Ks577.pebblesAt at h
  split at h
  · have := of_decide_eq_true h
    omega
  · rw [Bool.and_eq_true] at h
    exact of_decide_eq_true h.1
theorem hasP_second {c : Cfg} {m : Mv} (h : hasP c m = true) (hf : m.1 < c.length) : 1 ≤ (c.set m.1 (c.getD m.1 0 - 1)).getD m.2.1 0 := by
  unfold hasP Ks577.pebblesAt at h
  split at h
  · rename_i e
    have := of_decide_eq_true h
    rw [← e, getD_set_self hf]
    omega
  · rename_i e
    rw [Bool.and_eq_true] at h
    rw [getD_set_ne e]
    exact of_decide_eq_true h.2
/-- every move takes one pebble away -/
theorem sum_mvd {c : Cfg} {m : Mv} (h : hasP c m = true) (hf : m.1 < c.length) (hs : m.2.1 < c.length) (ht : m.2.2 < c.length) : (mvd c m).sum + 1 = c.sum := by
  have h1 := hasP_first h
  have h2 := hasP_second h hf
  show (((c.set m.1 (c.getD m.1 0 - 1)).set m.2.1 ((c.set m.1 (c.getD m.1 0 - 1)).getD m.2.1 0 - 1)).set m.2.2 (((c.set m.1 (c.getD m.1 0 - 1)).set m.2.1 ((c.set m.1 (c.getD m.1 0 - 1)).getD m.2.1 0 - 1)).getD m.2.2 0 + 1)).sum + 1 = c.sum
  have e1 := sum_set_nat c m.1 (c.getD m.1 0 - 1) hf
  generalize hc1 : c.set m.1 (c.getD m.1 0 - 1) = c1 at *
  have l1 : c1.length = c.length := by rw [← hc1, List.length_set]
  have e2 := sum_set_nat c1 m.2.1 (c1.getD m.2.1 0 - 1) (by omega)
  generalize hc2 : c1.set m.2.1 (c1.getD m.2.1 0 - 1) = c2 at *
  have l2 : c2.length = c.length := by rw [← hc2, List.length_set, l1]
  have e3 := sum_set_nat c2 m.2.2 (c2.getD m.2.2 0 + 1) (by omega)
  omega
/-- the moves of a list stay on n vertices -/
def MovesIn (n : Nat) (ms : List Mv) : Prop := ∀ m ∈ ms, m.1 < n ∧ m.2.1 < n ∧ m.2.2 < n
theorem behind_len {c d : Cfg} {ms : List Mv} (h : d ∈ allBehind c ms) : d.length = c.length := by
  unfold allBehind at h
  obtain ⟨m, _, e⟩ := List.mem_map.mp h
  rw [← e]
  exact mvd_length ..
theorem behind_sum {n : Nat} {c d : Cfg} {ms : List Mv} (hm : MovesIn n ms) (hl : c.length = n) (h : d ∈ allBehind c ms) : d.sum + 1 = c.sum := by
  unfold allBehind at h
  obtain ⟨m, hmm, e⟩ := List.mem_map.mp h
  obtain ⟨h1, h2⟩ := List.mem_filter.mp hmm
  obtain ⟨a1, a2, a3⟩ := hm m h1
  rw [← e]
  exact sum_mvd h2 (by omega) (by omega) (by omega)
theorem rubMoves_in (n : Nat) (ps : List (Nat × Nat)) : MovesIn n (rubMoves (graphOf n ps)) := fun m hm => by
  obtain ⟨h1, h2, h3, _⟩ := mem_rubMoves.mp hm
  exact ⟨h2, h3, h1⟩
theorem mem_configurations : ∀ {n p : Nat} {c : Cfg}, c ∈ Ks578.configurations n p ↔ c.length = n ∧ c.sum = p
  | 0, p, c => by
    unfold Ks578.configurations
    by_cases h : p = 0
    · rw [if_pos h, List.mem_singleton]
      constructor
      · rintro rfl; exact ⟨rfl, h.symm⟩
      · rintro ⟨h1, _⟩; exact List.length_eq_zero_iff.mp h1
    · rw [if_neg h]
      constructor
      · intro z; exact absurd z (by simp)
      · rintro ⟨h1, h2⟩
        rw [List.length_eq_zero_iff.mp h1] at h2
        exact absurd h2.symm h
  | n + 1, p, c => by
    unfold Ks578.configurations
    simp only [List.mem_flatMap, List.mem_map, List.mem_range]
    constructor
    · rintro ⟨a, ha, r, hr, rfl⟩
      obtain ⟨h1, h2⟩ := mem_configurations.mp hr
      rw [List.length_cons, List.sum_cons]
      omega
    · rintro ⟨h1, h2⟩
      cases c with
      | nil => simp at h1
      | cons a r =>
        rw [List.length_cons] at h1
        rw [List.sum_cons] at h2
        exact ⟨a, by omega, r, mem_configurations.mpr ⟨by omega, by omega⟩, rfl⟩
theorem nodup_len {α : Type} [DecidableEq α] : ∀ (l m : List α), l.Nodup → (∀ x ∈ l, x ∈ m) → l.length ≤ m.length
  | [], _, _, _ => Nat.zero_le _
  | x :: l, m, hn, hs => by
    obtain ⟨h1, h2⟩ := List.nodup_cons.mp hn
    have hx := hs x (List.mem_cons_self ..)
    have ih := nodup_len l (m.erase x) h2 (fun y hy => (List.mem_erase_of_ne (fun e => h1 (by rw [← e]; exact hy))).mpr (hs y (List.mem_cons_of_mem _ hy)))
    rw [List.length_erase_of_mem hx] at ih
    have : 0 < m.length := List.length_pos_of_mem hx
    rw [List.length_cons]
    omega
def manyCfgs (n : Nat) : List Cfg := (List.range 13).flatMap fun p => Ks578.configurations n p
theorem many_le : ∀ n, n ≤ 5 → (manyCfgs n).length ≤ 10000 := by
  have h : (List.range 6).all (fun n => decide ((manyCfgs n).length ≤ 10000)) = true := by decide +kernel
  intro n hn
  exact of_decide_eq_true (List.all_eq_true.mp h n (List.mem_range.mpr (by omega)))
theorem few_cfgs {n : Nat} (hn : n ≤ 5) {l : List Cfg} (hd : l.Nodup) (h : ∀ c ∈ l, c.length = n ∧ c.sum ≤ 12) : l.length ≤ 10000 := by
  refine Nat.le_trans (nodup_len l (manyCfgs n) hd fun c hc => ?_) (many_le n hn)
  obtain ⟨h1, h2⟩ := h c hc
  exact List.mem_flatMap.mpr ⟨c.sum, List.mem_range.mpr (by omega), mem_configurations.mpr ⟨h1, rfl⟩⟩
theorem nodup_snoc {α : Type} : ∀ {l : List α} {k : α}, l.Nodup → ¬ k ∈ l → (l ++ [k]).Nodup
  | [], k, _, _ => by simp
  | a :: r, k, h, hk => by
    obtain ⟨h1, h2⟩ := List.nodup_cons.mp h
    show (a :: (r ++ [k])).Nodup
    refine List.nodup_cons.mpr ⟨fun m => ?_, nodup_snoc h2 fun m => hk (List.mem_cons.mpr (Or.inr m))⟩
    rcases List.mem_append.mp m with q | q
    · exact h1 q
    · exact hk (List.mem_cons.mpr (Or.inl (List.mem_singleton.mp q).symm))
theorem nodup_addNew {acc : List Cfg} (x : Cfg) (h : acc.Nodup) : (addNew acc x).Nodup := by
  unfold addNew
  split
  · exact h
  · rename_i hx
    exact nodup_snoc h hx
theorem nodup_foldl : ∀ (l acc : List Cfg), acc.Nodup → (l.foldl addNew acc).Nodup
  | [], acc, h => h
  | x :: l, acc, h => nodup_foldl l _ (nodup_addNew x h)
theorem nodup_dedup (l : List Cfg) : (dedup l).Nodup := nodup_foldl l [] List.nodup_nil
/-- every level: n vertices, at most 12 pebbles -/
def LevOk (n : Nat) (lev : List Cfg) : Prop := ∀ c ∈ lev, c.length = n ∧ c.sum ≤ 12
theorem behind_ok {n : Nat} {c d : Cfg} {ms : List Mv} (hm : MovesIn n ms) (hl : c.length = n ∧ c.sum ≤ 12) (h : d ∈ allBehind c ms) : d.length = n ∧ d.sum ≤ 12 := by
  have h1 := behind_len h
  have h2 := behind_sum hm hl.1 h
  omega
theorem next_ok {n : Nat} {lev : List Cfg} {ms : List Mv} (hm : MovesIn n ms) (h : LevOk n lev) : LevOk n (nextLevel lev ms) := fun d hd => by
  unfold nextLevel at hd
  rw [mem_dedup, List.mem_flatMap] at hd
  obtain ⟨c, hc, hd⟩ := hd
  exact behind_ok hm (h c hc) hd
theorem lev_ok {n : Nat} {s : Cfg} {ms : List Mv} (hm : MovesIn n ms) (hs : s.length = n ∧ s.sum ≤ 12) : ∀ i, LevOk n (lev ms s i)
  | 0 => fun c hc => by
    rw [List.mem_singleton.mp hc]
    exact hs
  | i + 1 => next_ok hm (lev_ok hm hs i)
theorem next_len {n : Nat} {lev : List Cfg} {ms : List Mv} (hn : n ≤ 5) (hm : MovesIn n ms) (h : LevOk n lev) : (nextLevel lev ms).length ≤ 10000 := few_cfgs hn (nodup_dedup _) (next_ok hm h)
theorem lev_len {n : Nat} {s : Cfg} {ms : List Mv} (hn : n ≤ 5) (hm : MovesIn n ms) (hs : s.length = n ∧ s.sum ≤ 12) : ∀ i, (lev ms s i).length ≤ 10000
  | 0 => by show 1 ≤ 10000; omega
  | i + 1 => next_len hn hm (lev_ok hm hs i)
theorem nbrs_length (n : Nat) (ps : List (Nat × Nat)) (v : Nat) : (nbrs n ps v).length ≤ n := by
  unfold nbrs
  exact Nat.le_trans (List.length_filter_le _ _) (Nat.le_of_eq (List.length_range ..))
/-- graphs small enough -/
def SmallGr (gr : Gr) : Prop := gr.length ≤ 5 ∧ ∀ near ∈ gr, near.length ≤ 5
theorem graphOf_small {n : Nat} {ps : List (Nat × Nat)} (h : n ≤ 5) : SmallGr (graphOf n ps) := by
  refine ⟨by rw [graphOf_length]; exact h, fun near hn => ?_⟩
  obtain ⟨v, _, e⟩ := List.mem_map.mp hn
  rw [← e]
  exact Nat.le_trans (nbrs_length ..) h
theorem flatMap_len {α β : Type} {f : α → List β} {k : Nat} : ∀ (l : List α), (∀ x ∈ l, (f x).length ≤ k) → (l.flatMap f).length ≤ l.length * k
  | [], _ => by simp
  | x :: l, h => by
    have ih := flatMap_len (f := f) (k := k) l (fun y hy => h y (List.mem_cons_of_mem _ hy))
    have h1 := h x (List.mem_cons_self ..)
    rw [List.flatMap_cons, List.length_append, List.length_cons, Nat.add_mul]
    omega
theorem movesAt_len {near : List Nat} {t : Nat} (h : near.length ≤ 5) : (movesAt near t).length ≤ 25 := by
  unfold movesAt
  refine Nat.le_trans (flatMap_len (k := 5) near fun f _ => ?_) (Nat.le_trans (Nat.mul_le_mul_right 5 h) (by decide))
  rw [List.length_map]
  exact Nat.le_trans (List.length_filter_le _ _) h
theorem movesPre_len {gr : Gr} (h : SmallGr gr) (i : Nat) : ((gr.zipIdx.take i).flatMap fun p => movesAt p.1 p.2).length ≤ 125 := by
  refine Nat.le_trans (flatMap_len (k := 25) _ fun p hp => ?_) ?_
  · have hp := List.mem_of_mem_take hp
    obtain ⟨a, b⟩ := p
    rw [mem_zipIdx_of] at hp
    exact movesAt_len (h.2 _ (List.mem_of_getElem? hp))
  · have h1 := h.1
    rw [List.length_take, List.length_zipIdx]
    refine Nat.le_trans (Nat.mul_le_mul_right 25 (Nat.min_le_right _ _)) ?_
    omega
theorem rubMoves_len {gr : Gr} (h : SmallGr gr) : (rubMoves gr).length ≤ 125 := by
  have := movesPre_len h gr.length
  rw [List.take_of_length_le (by rw [List.length_zipIdx]; exact Nat.le_refl _)] at this
  exact this
end Rub
/-! Configurations row by row; from which configurations a target is reachable; the least number of pebbles. -/
namespace Rub
/-! ### rows -/
def rowStep (p : Cfg × Nat) : List (Cfg × Nat) := (List.range (p.2 + 1)).map fun own => (p.1 ++ [own], p.2 - own)
def longer (rows : List (Cfg × Nat)) : List (Cfg × Nat) := rows.flatMap rowStep
def rowsAt (many : Nat) : Nat → List (Cfg × Nat)
  | 0 => [([], many)]
  | k + 1 => longer (rowsAt many k)
def cfgs (n many : Nat) : List Cfg := (rowsAt many (n - 1)).map fun p => p.1 ++ [p.2]
theorem conf_one (m : Nat) : Ks578.configurations 1 m = [[m]] := by
  unfold Ks578.configurations
  rw [List.range_succ, List.flatMap_append]
  have h : (List.range m).flatMap (fun first => (Ks578.configurations 0 (m - first)).map fun rest => first :: rest) = [] := by
    rw [List.flatMap_eq_nil_iff]
    intro x hx
    have := List.mem_range.mp hx
    unfold Ks578.configurations
    rw [if_neg (by omega)]
    rfl
  rw [h]
  simp [Ks578.configurations]
def closed (k : Nat) (rows : List (Cfg × Nat)) : List Cfg := rows.flatMap fun p => (Ks578.configurations (k + 1) p.2).map fun r => p.1 ++ r
theorem closed_longer (k : Nat) (rows : List (Cfg × Nat)) : closed k (longer rows) = closed (k + 1) rows := by
  unfold closed longer
  rw [List.flatMap_assoc]
  congr 1
  funext p
  unfold rowStep
  rw [List.flatMap_map]
  show _ = ((List.range (p.2 + 1)).flatMap fun first => (Ks578.configurations (k + 1) (p.2 - first)).map fun rest => first :: rest).map fun r => p.1 ++ r
  rw [List.map_flatMap]
  congr 1
  funext own
  rw [List.map_map]
  apply List.map_congr_left
  intro r _
  show (p.1 ++ [own]) ++ r = p.1 ++ (own :: r)
  rw [List.append_assoc]
  rfl
theorem closed_rows (many : Nat) : ∀ (j k : Nat), closed k (rowsAt many j) = closed (k + j) (rowsAt many 0)
  | 0, k => rfl
  | j + 1, k => by
    show closed k (longer (rowsAt many j)) = _
    rw [closed_longer, closed_rows many j (k + 1)]
    congr 1
    omega
theorem cfgs_is {n : Nat} (hn : 1 ≤ n) (many : Nat) : cfgs n many = Ks578.configurations n many := by
  have h0 : cfgs n many = closed 0 (rowsAt many (n - 1)) := by
    unfold cfgs closed
    rw [List.map_eq_flatMap]
    congr 1
    funext p
    rw [conf_one]
    rfl
  rw [h0, closed_rows]
  show ([(([] : Cfg), many)].flatMap fun p => (Ks578.configurations (0 + (n - 1) + 1) p.2).map fun r => p.1 ++ r) = _
  rw [show 0 + (n - 1) + 1 = n by omega]
  simp
theorem conf_nodup : ∀ n p, (Ks578.configurations n p).Nodup
  | 0, p => by
    unfold Ks578.configurations
    split <;> simp
  | n + 1, p => by
    unfold Ks578.configurations
    show List.Pairwise _ _
    rw [List.pairwise_flatMap]
    constructor
    · intro a _
      rw [List.pairwise_map]
      exact List.Pairwise.imp (fun h e => h (List.cons.inj e).2) (conf_nodup n (p - a))
    · refine List.Pairwise.imp ?_ (List.nodup_range (n := p + 1))
      intro a b hab x hx y hy e
      obtain ⟨r, _, rfl⟩ := List.mem_map.mp hx
      obtain ⟨r', _, rfl⟩ := List.mem_map.mp hy
      exact hab (List.cons.inj e).1
theorem rowsAt_ok {many : Nat} : ∀ (j : Nat) (p : Cfg × Nat), p ∈ rowsAt many j → p.1.length = j ∧ p.1.sum + p.2 = many
  | 0, p, h => by
    rw [List.mem_singleton.mp h]
    exact ⟨rfl, by simp⟩
  | j + 1, p, h => by
    obtain ⟨q, hq, hp⟩ := List.mem_flatMap.mp (show p ∈ (rowsAt many j).flatMap rowStep from h)
    obtain ⟨own, ho, rfl⟩ := List.mem_map.mp hp
    obtain ⟨h1, h2⟩ := rowsAt_ok j q hq
    have := List.mem_range.mp ho
    refine ⟨by simp [h1], ?_⟩
    show (q.1 ++ [own]).sum + (q.2 - own) = many
    rw [List.sum_append]
    simp
    omega

/-! ### reachable with one target -/
def canR (t : Nat) (ms : List Mv) (before : List Cfg) (c : Cfg) : Bool := decide (0 < Ks577.pebblesAt c t) || (allBehind c ms).any fun d => decide (d ∈ before)
def reaching (rows : List Cfg) (t : Nat) (ms : List Mv) (before : List Cfg) : List Cfg := (rows.filter (canR t ms before)).foldl addNew []
def bef (n t : Nat) (ms : List Mv) : Nat → List Cfg
  | 0 => []
  | k + 1 => reaching (Ks578.configurations n (k + 1)) t ms (bef n t ms k)
theorem foldl_addNew_nodup : ∀ (l acc : List Cfg), (acc ++ l).Nodup → l.foldl addNew acc = acc ++ l
  | [], acc, _ => (List.append_nil _).symm
  | x :: l, acc, h => by
    have hx : x ∉ acc := fun hx => by
      rw [List.nodup_append] at h
      exact h.2.2 x hx x (List.mem_cons_self ..) rfl
    have e : addNew acc x = acc ++ [x] := if_neg hx
    rw [List.foldl_cons, e, foldl_addNew_nodup l (acc ++ [x]) (by rw [List.append_assoc]; exact h), List.append_assoc]
    rfl
theorem reaching_is {rows : List Cfg} {t : Nat} {ms : List Mv} {before : List Cfg} (h : rows.Nodup) : reaching rows t ms before = rows.filter (canR t ms before) := by
  unfold reaching
  rw [foldl_addNew_nodup _ [] (by rw [List.nil_append]; exact List.Pairwise.filter _ h), List.nil_append]
/-- the specification's unsolvable configurations, of any successors -/
def unsolv (S : Cfg → List Cfg) (n t : Nat) : Nat → List Cfg
  | 0 => Ks578.configurations n 0
  | p + 1 => (Ks578.configurations n (p + 1)).filter fun c => Ks577.pebblesAt c t == 0 && (S c).all fun d => (unsolv S n t p).contains d
theorem unsolv_rub (g : Ks577.Graph) (t : Nat) : ∀ p, Ks581.unsolvable g t p = unsolv (Ks581.successors g) g.vertexCount t p
  | 0 => rfl
  | p + 1 => by
    unfold Ks581.unsolvable unsolv
    rw [unsolv_rub g t p]
theorem unsolv_peb (g : Ks577.Graph) (t : Nat) : ∀ p, Ks578.unsolvable g t p = unsolv (Ks577.successors g) g.vertexCount t p
  | 0 => rfl
  | p + 1 => by
    unfold Ks578.unsolvable unsolv
    rw [unsolv_peb g t p]
theorem unsolv_conf {S : Cfg → List Cfg} {n t : Nat} : ∀ {p : Nat} {c : Cfg}, c ∈ unsolv S n t p → c ∈ Ks578.configurations n p
  | 0, c, h => h
  | p + 1, c, h => (List.mem_filter.mp h).1
/-- what the program keeps is what the specification does not call unsolvable -/
theorem mem_bef {S : Cfg → List Cfg} {n t : Nat} {ms : List Mv} (hS : ∀ c d, d ∈ allBehind c ms ↔ d ∈ S c) (hm : MovesIn n ms) : ∀ (p : Nat) (c : Cfg), c ∈ bef n t ms p ↔ c ∈ Ks578.configurations n p ∧ c ∉ unsolv S n t p
  | 0, c => by
    constructor
    · intro h; exact absurd h (by simp [bef])
    · rintro ⟨h1, h2⟩; exact absurd h1 h2
  | p + 1, c => by
    show c ∈ reaching _ _ _ _ ↔ _
    rw [reaching_is (conf_nodup _ _), List.mem_filter]
    constructor
    · rintro ⟨h1, h2⟩
      refine ⟨h1, fun hu => ?_⟩
      have hu := (List.mem_filter.mp hu).2
      rw [Bool.and_eq_true] at hu
      unfold canR at h2
      rw [Bool.or_eq_true] at h2
      rcases h2 with h | h
      · have e := eq_of_beq hu.1
        have := of_decide_eq_true h
        omega
      · obtain ⟨d, hd, hb⟩ := List.any_eq_true.mp h
        have hb := of_decide_eq_true hb
        have hnu := ((mem_bef hS hm p d).mp hb).2
        have := List.all_eq_true.mp hu.2 d ((hS c d).mp hd)
        exact hnu (List.contains_iff_mem.mp this)
    · rintro ⟨h1, h2⟩
      refine ⟨h1, ?_⟩
      unfold canR
      rw [Bool.or_eq_true]
      by_cases h : 0 < Ks577.pebblesAt c t
      · exact .inl (decide_eq_true h)
      · refine .inr ?_
        have h2' : ¬ ((Ks577.pebblesAt c t == 0 && (S c).all fun d => (unsolv S n t p).contains d) = true) := fun z => h2 (List.mem_filter.mpr ⟨h1, z⟩)
        have e0 : (Ks577.pebblesAt c t == 0) = true := beq_iff_eq.mpr (by omega)
        rw [e0, Bool.true_and, Bool.not_eq_true, List.all_eq_false] at h2'
        obtain ⟨d, hd, hc⟩ := h2'
        have hd' := (hS c d).mpr hd
        refine List.any_eq_true.mpr ⟨d, hd', decide_eq_true ((mem_bef hS hm p d).mpr ⟨?_, fun z => hc (List.contains_iff_mem.mpr z)⟩)⟩
        obtain ⟨l1, l2⟩ := mem_configurations.mp h1
        have := behind_sum hm l1 hd'
        exact mem_configurations.mpr ⟨(behind_len hd').trans l1, by omega⟩
theorem bef_full {S : Cfg → List Cfg} {n t : Nat} {ms : List Mv} (hS : ∀ c d, d ∈ allBehind c ms ↔ d ∈ S c) (hm : MovesIn n ms) (p : Nat) :
    ((bef n t ms (p + 1)).length == (Ks578.configurations n (p + 1)).length) = (unsolv S n t (p + 1)).isEmpty := by
  rw [Bool.eq_iff_iff, beq_iff_eq, List.isEmpty_iff]
  have e : bef n t ms (p + 1) = (Ks578.configurations n (p + 1)).filter (canR t ms (bef n t ms p)) := reaching_is (conf_nodup _ _)
  constructor
  · intro h
    rw [e, List.length_filter_eq_length_iff] at h
    refine List.eq_nil_iff_forall_not_mem.mpr fun c hc => ?_
    have h1 := unsolv_conf hc
    have h2 : c ∈ bef n t ms (p + 1) := by rw [e]; exact List.mem_filter.mpr ⟨h1, h c h1⟩
    exact ((mem_bef hS hm (p + 1) c).mp h2).2 hc
  · intro h
    rw [e, List.length_filter_eq_length_iff]
    intro c hc
    have h2 : c ∈ bef n t ms (p + 1) := (mem_bef hS hm (p + 1) c).mpr ⟨hc, by rw [h]; exact List.not_mem_nil⟩
    rw [e] at h2
    exact (List.mem_filter.mp h2).2
/-- the least number below most, else most -/
def firstOf (U : Nat → Bool) (most : Nat) : Nat := ((List.range most).find? fun k => decide (1 ≤ k) && U k).getD most
def leastNumber (n t : Nat) (ms : List Mv) (most : Nat) : Nat := firstOf (fun k => (bef n t ms k).length == (Ks578.configurations n k).length) most
theorem find_range {p : Nat → Bool} {m k : Nat} (hk : k < m) (hp : p k = true) (hn : ∀ j, j < k → p j = false) : (List.range m).find? p = some k := by
  rw [List.find?_range_eq_some]
  exact ⟨hp, List.mem_range.mpr hk, fun j hj => by rw [hn j hj]; rfl⟩
theorem least_of : ∀ {p : Nat → Bool} {k : Nat}, p k = true → ∃ j, j ≤ k ∧ p j = true ∧ ∀ i, i < j → p i = false := fun {p k} hp => by
  induction k using Nat.strongRecOn with
  | ind k ih =>
    by_cases h : ∃ j, j < k ∧ p j = true
    · obtain ⟨j, hj, hpj⟩ := h
      obtain ⟨i, hi, a, b⟩ := ih j hj hpj
      exact ⟨i, by omega, a, b⟩
    · refine ⟨k, Nat.le_refl _, hp, fun i hi => ?_⟩
      cases e : p i with
      | false => rfl
      | true => exact absurd ⟨i, hi, e⟩ h
/-- where some number does it at or below both ends, the search to one end and the search to the other agree -/
theorem firstOf_is {U : Nat → Bool} {most k : Nat} (h1 : 1 ≤ k) (h2 : k ≤ most) (h3 : k ≤ 10) (hU : U k = true) : (List.range 11).find? (fun p => decide (1 ≤ p) && U p) = some (firstOf U most) := by
  have hp : (fun p => decide (1 ≤ p) && U p) k = true := by
    show (decide (1 ≤ k) && U k) = true
    rw [decide_eq_true h1, hU]
    rfl
  obtain ⟨j, hj, a, b⟩ := least_of (p := fun p => decide (1 ≤ p) && U p) hp
  rw [find_range (by omega) a b]
  unfold firstOf
  by_cases hm : j < most
  · rw [find_range hm a b]
    rfl
  · have e : (List.range most).find? (fun k => decide (1 ≤ k) && U k) = none := by
      rw [List.find?_range_eq_none]
      intro i hi
      have := b i (by omega)
      rw [show (decide (1 ≤ i) && U i) = false from this]
      rfl
    rw [e]
    show some j = some most
    congr 1
    omega
theorem firstOf_congr {U U' : Nat → Bool} {most : Nat} (h : ∀ k, 1 ≤ k → U k = U' k) : firstOf U most = firstOf U' most := by
  unfold firstOf
  congr 2
  funext k
  by_cases hk : 1 ≤ k
  · rw [h k hk]
  · rw [decide_eq_false hk]
    rfl
theorem leastNumber_is {S : Cfg → List Cfg} {n t : Nat} {ms : List Mv} (hS : ∀ c d, d ∈ allBehind c ms ↔ d ∈ S c) (hm : MovesIn n ms) (most : Nat) : leastNumber n t ms most = firstOf (fun k => (unsolv S n t k).isEmpty) most := by
  refine firstOf_congr fun k hk => ?_
  obtain ⟨p, rfl⟩ : ∃ p, k = p + 1 := ⟨k - 1, by omega⟩
  exact bef_full hS hm p
end Rub
/-! The optimal configuration is what the specification tells. -/
namespace Rub
def reach0 (c : Cfg) : List Bool := c.map fun own => decide (0 < own)
def orEach (a b : List Bool) : List Bool := List.zipWith (fun x y => x || y) a b
def reachOf (c : Cfg) (ms : List Mv) (before : Cfg → List Bool) : List Bool := (allBehind c ms).foldl (fun found later => orEach found (before later)) (reach0 c)
def reachAt (ms : List Mv) : Nat → Cfg → List Bool
  | 0, c => reach0 c
  | k + 1, c => reachOf c ms (reachAt ms k)
def complete (b : List Bool) : Bool := b.all id
def firstComplete (ms : List Mv) (n k : Nat) : Option Cfg := (Ks578.configurations n k).find? fun c => complete (reachAt ms k c)
def optL (n : Nat) (ms : List Mv) : Option Cfg := ((List.range n).map fun k => k + 1).findSome? fun k => firstComplete ms n k
theorem fold_len {m : Nat} (before : Cfg → List Bool) : ∀ (l : List Cfg) (a : List Bool), a.length = m → (∀ d ∈ l, (before d).length = m) → (l.foldl (fun found later => orEach found (before later)) a).length = m
  | [], a, h, _ => h
  | d :: l, a, h, hb => by
    rw [List.foldl_cons]
    refine fold_len before l _ ?_ (fun e he => hb e (List.mem_cons_of_mem _ he))
    unfold orEach
    rw [List.length_zipWith, h, hb d (List.mem_cons_self ..)]
    omega
theorem reach_len {ms : List Mv} : ∀ (k : Nat) (c : Cfg), (reachAt ms k c).length = c.length
  | 0, c => by unfold reachAt reach0; exact List.length_map ..
  | k + 1, c => fold_len _ _ _ (by unfold reach0; exact List.length_map ..) (fun d hd => (reach_len k d).trans (behind_len hd))
theorem fold_at {m v : Nat} (hv : v < m) (before : Cfg → List Bool) : ∀ (l : List Cfg) (a : List Bool), a.length = m → (∀ d ∈ l, (before d).length = m) →
    ((l.foldl (fun found later => orEach found (before later)) a).getD v false = true ↔ a.getD v false = true ∨ ∃ d ∈ l, (before d).getD v false = true)
  | [], a, h, _ => by simp
  | d :: l, a, h, hb => by
    have hd := hb d (List.mem_cons_self ..)
    have hl : (orEach a (before d)).length = m := by
      unfold orEach
      rw [List.length_zipWith, h, hd]
      omega
    rw [List.foldl_cons, fold_at hv before l _ hl (fun e he => hb e (List.mem_cons_of_mem _ he))]
    have e : (orEach a (before d)).getD v false = (a.getD v false || (before d).getD v false) := by
      unfold orEach
      rw [List.getD_eq_getElem?_getD, List.getD_eq_getElem?_getD, List.getD_eq_getElem?_getD, List.getElem?_zipWith, List.getElem?_eq_getElem (by omega), List.getElem?_eq_getElem (by omega)]
      rfl
    rw [e, Bool.or_eq_true]
    simp only [List.mem_cons, exists_eq_or_imp]
    exact or_assoc
theorem reach0_at {c : Cfg} {v : Nat} (hv : v < c.length) : (reach0 c).getD v false = decide (0 < c.getD v 0) := by
  unfold reach0
  rw [List.getD_eq_getElem?_getD, List.getElem?_map, List.getElem?_eq_getElem hv, List.getD_eq_getElem?_getD, List.getElem?_eq_getElem hv]
  rfl
/-- a level by its first move -/
theorem lev_head {ms : List Mv} {d : Cfg} : ∀ (i : Nat) (c : Cfg), d ∈ lev ms c (i + 1) ↔ ∃ e ∈ allBehind c ms, d ∈ lev ms e i
  | 0, c => by
    show d ∈ nextLevel [c] ms ↔ _
    unfold nextLevel
    rw [mem_dedup]
    simp only [List.flatMap_cons, List.flatMap_nil, List.append_nil]
    constructor
    · intro h; exact ⟨d, h, List.mem_singleton.mpr rfl⟩
    · rintro ⟨e, he, hd⟩
      rw [List.mem_singleton.mp hd]
      exact he
  | i + 1, c => by
    have up : ∀ (x : Cfg) (j : Nat), d ∈ lev ms x (j + 1) ↔ ∃ y ∈ lev ms x j, d ∈ allBehind y ms := fun x j => by
      show d ∈ nextLevel _ ms ↔ _
      unfold nextLevel
      rw [mem_dedup, List.mem_flatMap]
    rw [up]
    constructor
    · rintro ⟨y, hy, hd⟩
      obtain ⟨e, he, hy'⟩ := (lev_head i c).mp hy
      exact ⟨e, he, (up e i).mpr ⟨y, hy', hd⟩⟩
    · rintro ⟨e, he, hd⟩
      obtain ⟨y, hy, hd⟩ := (up e i).mp hd
      exact ⟨y, (lev_head i c).mpr ⟨e, he, hy⟩, hd⟩
theorem lev_sum {n : Nat} {ms : List Mv} (hm : MovesIn n ms) {c : Cfg} (hc : c.length = n) : ∀ (i : Nat) (d : Cfg), d ∈ lev ms c i → d.length = n ∧ d.sum + i = c.sum
  | 0, d, h => by
    rw [List.mem_singleton.mp h]
    exact ⟨hc, rfl⟩
  | i + 1, d, h => by
    have h : d ∈ nextLevel (lev ms c i) ms := h
    unfold nextLevel at h
    rw [mem_dedup, List.mem_flatMap] at h
    obtain ⟨y, hy, hd⟩ := h
    obtain ⟨h1, h2⟩ := lev_sum hm hc i y hy
    have h3 := behind_len hd
    have h4 := behind_sum hm h1 hd
    omega
theorem sum_geO : ∀ (c : Cfg) (i : Nat), c.getD i 0 ≤ c.sum
  | [], i => by simp
  | a :: r, 0 => by rw [List.sum_cons]; show a ≤ _; omega
  | a :: r, i + 1 => by
    have := sum_geO r i
    rw [List.sum_cons]
    show r.getD i 0 ≤ _
    omega
theorem some_idx {α : Type} {p : α → Bool} {l : List α} : (l.findIdx? p).isSome = l.any p := by
  cases e : l.findIdx? p with
  | none =>
    have := List.findIdx?_eq_none_iff.mp e
    rw [Eq.comm, Option.isSome_none, List.any_eq_false]
    intro x hx
    rw [this x hx]
    exact Bool.false_ne_true
  | some i =>
    rw [Eq.comm, Option.isSome_some, List.any_eq_true]
    obtain ⟨hi, h, _⟩ := List.findIdx?_eq_some_iff_getElem.mp e
    exact ⟨_, List.getElem_mem hi, h⟩
theorem reach_is {n : Nat} {ms : List Mv} (hm : MovesIn n ms) {v : Nat} (hv : v < n) : ∀ (k : Nat) (c : Cfg), c.length = n → c.sum = k →
    ((reachAt ms k c).getD v false = true ↔ ∃ i, ∃ d ∈ lev ms c i, 1 ≤ d.getD v 0)
  | 0, c, hc, hs => by
    show (reach0 c).getD v false = true ↔ _
    rw [reach0_at (by omega), decide_eq_true_eq]
    constructor
    · intro h
      exact ⟨0, c, List.mem_singleton.mpr rfl, h⟩
    · rintro ⟨i, d, hd, h⟩
      obtain ⟨_, h2⟩ := lev_sum hm hc i d hd
      have := sum_geO d v
      omega
  | k + 1, c, hc, hs => by
    show (reachOf c ms (reachAt ms k)).getD v false = true ↔ _
    unfold reachOf
    rw [fold_at hv _ _ _ (by unfold reach0; rw [List.length_map]; exact hc) (fun d hd => by rw [reach_len, behind_len hd, hc]), reach0_at (by omega), decide_eq_true_eq]
    constructor
    · rintro (h | ⟨e, he, h⟩)
      · exact ⟨0, c, List.mem_singleton.mpr rfl, h⟩
      · have hs' := behind_sum hm hc he
        obtain ⟨i, d, hd, h⟩ := (reach_is hm hv k e ((behind_len he).trans hc) (by omega)).mp h
        exact ⟨i + 1, d, (lev_head i c).mpr ⟨e, he, hd⟩, h⟩
    · rintro ⟨i, d, hd, h⟩
      cases i with
      | zero =>
        rw [List.mem_singleton.mp hd] at h
        exact .inl h
      | succ i =>
        obtain ⟨e, he, hd⟩ := (lev_head i c).mp hd
        have hs' := behind_sum hm hc he
        exact .inr ⟨e, he, (reach_is hm hv k e ((behind_len he).trans hc) (by omega)).mpr ⟨i, d, hd, h⟩⟩
theorem canReach_is {n : Nat} {ps : List (Nat × Nat)} {c : Cfg} (hc : c.length = n) {v : Nat} : Ks581.canReach ⟨n, ps⟩ c v 1 = true ↔ ∃ i, ∃ d ∈ lev (rubMoves (graphOf n ps)) c i, 1 ≤ d.getD v 0 := by
  unfold Ks581.canReach Ks581.minMoves Ks581.levels
  rw [some_idx, List.any_eq_true]
  have key := levels_mem (g := ⟨n, ps⟩) (c.sum + 1) [c] (lev (rubMoves (graphOf n ps)) c) (fun d => Iff.rfl) (fun i d => lev_succ i d)
  constructor
  · rintro ⟨l, hl, h⟩
    obtain ⟨d, hd, hv⟩ := List.any_eq_true.mp h
    obtain ⟨l', hl', hd'⟩ := (key d).mpr ⟨l, hl, hd⟩
    obtain ⟨i, _, rfl⟩ := List.mem_map.mp hl'
    exact ⟨i, d, hd', of_decide_eq_true hv⟩
  · rintro ⟨i, d, hd, hv⟩
    have hi := (lev_sum (rubMoves_in n ps) hc i d hd).2
    obtain ⟨l, hl, hdl⟩ := (key d).mp ⟨_, List.mem_map.mpr ⟨i, List.mem_range.mpr (by omega), rfl⟩, hd⟩
    exact ⟨l, hl, List.any_eq_true.mpr ⟨d, hdl, decide_eq_true hv⟩⟩
theorem complete_is {n : Nat} {ps : List (Nat × Nat)} {c : Cfg} {k : Nat} (hc : c ∈ Ks578.configurations n k) : complete (reachAt (rubMoves (graphOf n ps)) k c) = (List.range n).all fun v => Ks581.canReach ⟨n, ps⟩ c v 1 := by
  obtain ⟨hl, hs⟩ := mem_configurations.mp hc
  rw [Bool.eq_iff_iff]
  unfold complete
  simp only [List.all_eq_true, id]
  have hlen : (reachAt (rubMoves (graphOf n ps)) k c).length = n := (reach_len k c).trans hl
  constructor
  · intro h v hv
    have hv := List.mem_range.mp hv
    rw [canReach_is hl, ← reach_is (rubMoves_in n ps) hv k c hl hs]
    rw [List.getD_eq_getElem?_getD, List.getElem?_eq_getElem (by omega)]
    exact h _ (List.getElem_mem _)
  · intro h b hb
    obtain ⟨v, hv, e⟩ := List.getElem_of_mem hb
    have h1 := h v (List.mem_range.mpr (by omega))
    rw [canReach_is hl, ← reach_is (rubMoves_in n ps) (by omega) k c hl hs, List.getD_eq_getElem?_getD, List.getElem?_eq_getElem hv] at h1
    rw [← e]
    exact h1
theorem find_congr {α : Type} {p q : α → Bool} : ∀ {l : List α}, (∀ x ∈ l, p x = q x) → l.find? p = l.find? q
  | [], _ => rfl
  | x :: l, h => by
    rw [List.find?_cons, List.find?_cons, h x (List.mem_cons_self ..), find_congr (fun y hy => h y (List.mem_cons_of_mem _ hy))]
theorem firstComplete_is {n k : Nat} {ps : List (Nat × Nat)} : firstComplete (rubMoves (graphOf n ps)) n k = (Ks578.configurations n k).find? fun c => (List.range n).all fun v => Ks581.canReach ⟨n, ps⟩ c v 1 := find_congr fun c hc => complete_is hc
theorem first_mem {ms : List Mv} {n k : Nat} {c : Cfg} (h : firstComplete ms n k = some c) : c.length = n ∧ c.sum = k := mem_configurations.mp (List.mem_of_find?_eq_some h)
theorem ones_reach {n : Nat} {ms : List Mv} (hm : MovesIn n ms) : complete (reachAt ms n (List.replicate n 1)) = true := by
  have hl : (List.replicate n 1).length = n := List.length_replicate ..
  have hs : (List.replicate n 1).sum = n := by simp
  unfold complete
  rw [List.all_eq_true]
  intro b hb
  obtain ⟨v, hv, e⟩ := List.getElem_of_mem hb
  have hvn : v < n := by rw [reach_len, hl] at hv; exact hv
  have h1 := (reach_is hm hvn n (List.replicate n 1) hl hs).mpr ⟨0, _, List.mem_singleton.mpr rfl, by
    rw [List.getD_eq_getElem?_getD, List.getElem?_replicate, if_pos hvn]
    exact Nat.le_refl 1⟩
  rw [List.getD_eq_getElem?_getD, List.getElem?_eq_getElem hv] at h1
  rw [← e]
  exact h1
theorem last_some {n : Nat} {ms : List Mv} (hm : MovesIn n ms) : ∃ c, firstComplete ms n n = some c := by
  have hmem : List.replicate n 1 ∈ Ks578.configurations n n := mem_configurations.mpr ⟨List.length_replicate .., by simp⟩
  cases e : firstComplete ms n n with
  | some c => exact ⟨c, rfl⟩
  | none =>
    have := List.find?_eq_none.mp e _ hmem
    exact absurd (ones_reach hm) this
def optimalL (n : Nat) (es : List Nat) : List Int :=
  if graphOk n es = true then
    match optL n (rubMoves (graphOf n (edgesOf es))) with
    | some c => ofNats (c.sum :: c)
    | none => [-33]
  else [-22]
theorem findSome_map {α β γ : Type} (f : α → β) (g : β → Option γ) : ∀ (l : List α), (l.map f).findSome? g = l.findSome? fun x => g (f x)
  | [] => rfl
  | x :: l => by
    rw [List.map_cons, List.findSome?_cons, List.findSome?_cons, findSome_map f g l]
theorem findSome_tag {f : Nat → Option Cfg} (hf : ∀ k c, f k = some c → c.sum = k) : ∀ (l : List Nat), (l.findSome? fun k => (f k).map fun c => (k, c)) = (l.findSome? f).map fun c => (c.sum, c)
  | [] => rfl
  | k :: l => by
    rw [List.findSome?_cons, List.findSome?_cons]
    cases e : f k with
    | none => exact findSome_tag hf l
    | some c =>
      have := hf k c e
      subst this
      rfl
theorem optimal_is {n : Nat} {ps : List (Nat × Nat)} (hn : 1 ≤ n) : Ks581.optimalConfiguration ⟨n, ps⟩ = (optL n (rubMoves (graphOf n ps))).map fun c => (c.sum, c) := by
  unfold Ks581.optimalConfiguration optL
  show (List.range (n + 1)).findSome? (fun pebbles => ((Ks578.configurations n pebbles).find? fun c => (List.range n).all fun v => Ks581.canReach ⟨n, ps⟩ c v 1).map fun c => (pebbles, c)) = _
  have e : (fun pebbles => ((Ks578.configurations n pebbles).find? fun c => (List.range n).all fun v => Ks581.canReach ⟨n, ps⟩ c v 1).map fun c => (pebbles, c)) = fun k => (firstComplete (rubMoves (graphOf n ps)) n k).map fun c => (k, c) := by
    funext k
    rw [firstComplete_is]
  rw [e, findSome_tag (fun k c h => (first_mem h).2), List.range_succ_eq_map, List.findSome?_cons]
  have h0 : firstComplete (rubMoves (graphOf n ps)) n 0 = none := by
    refine List.find?_eq_none.mpr fun c hc h => ?_
    obtain ⟨hl, hs⟩ := mem_configurations.mp hc
    have h1 := List.all_eq_true.mp h
    have hlen : (reachAt (rubMoves (graphOf n ps)) 0 c).length = n := (reach_len 0 c).trans hl
    have h2 := h1 _ (List.getElem_mem (show 0 < (reachAt (rubMoves (graphOf n ps)) 0 c).length by omega))
    have h3 := (reach_is (rubMoves_in n ps) (v := 0) (by omega) 0 c hl hs).mp (by
      rw [List.getD_eq_getElem?_getD, List.getElem?_eq_getElem (by omega)]
      exact h2)
    obtain ⟨i, d, hd, h4⟩ := h3
    have h5 := (lev_sum (rubMoves_in n ps) hl i d hd).2
    have h6 := sum_geO d 0
    omega
  rw [h0]
theorem opt_some {n : Nat} {ms : List Mv} (hn : 1 ≤ n) (hm : MovesIn n ms) : ∃ c, optL n ms = some c := by
  obtain ⟨c, hc⟩ := last_some hm
  cases e : optL n ms with
  | some c => exact ⟨c, rfl⟩
  | none =>
    have := List.findSome?_eq_none_iff.mp e n (List.mem_map.mpr ⟨n - 1, List.mem_range.mpr (by omega), by omega⟩)
    rw [hc] at this
    cases this
theorem opt_spec (n : Nat) (es : List Nat) : PyKs581.optimal_configuration n (ofNats es) = optimalL n es := by
  show Ks581Neutral.integers (Ks581.answer (.optimalConfiguration n ((ofNats es).map Int.toNat))) = _
  rw [toNat_ofNats]
  unfold Ks581.answer Ks577.withGraph optimalL
  simp only []
  rw [parseGraph_eq]
  by_cases hg : graphOk n es = true
  · rw [if_pos hg, if_pos hg]
    obtain ⟨hn1, hn5⟩ := graphOk_le hg
    simp only []
    rw [optimal_is hn1]
    cases optL n (rubMoves (graphOf n (edgesOf es))) <;> rfl
  · rw [if_neg hg, if_neg hg]
    rfl
end Rub
/-! Words for the walk: what stands for a list of naturals, promises of defs by name, comprehensions as maps, sum and enumerate of a tuple. -/
namespace RW
open PySem PySem.Spec PyProof.Rows L2 Rub

/-! ### naturals, tuples of naturals -/
def ivs (l : List Nat) : List V := l.map fun (n : Nat) => V.int (n : Int)
theorem ivs_len (l : List Nat) : (ivs l).length = l.length := List.length_map ..
theorem ivs_get {l : List Nat} {i : Nat} (h : i < l.length) : (ivs l)[i]? = some (.int ((l.getD i 0 : Nat) : Int)) := by
  unfold ivs
  rw [List.getElem?_map, List.getElem?_eq_getElem h, List.getD_eq_getElem?_getD, List.getElem?_eq_getElem h]
  rfl
theorem ivs_at {l : List Nat} {i : Nat} (h : i < l.length) : atI (ivs l) (i : Int) = some (.int ((l.getD i 0 : Nat) : Int)) := atI_nat (ivs_get h)
theorem ivs_set (l : List Nat) (i k : Nat) : (ivs l).set i (.int (k : Int)) = ivs (l.set i k) := by
  unfold ivs
  rw [List.map_set]
theorem ivs_ints (l : List Nat) : ivs l = (ofNats l).map V.int := by
  unfold ivs ofNats
  rw [List.map_map]
  rfl
theorem ofNats_sum : ∀ l : List Nat, (ofNats l).sum = (l.sum : Int)
  | [] => rfl
  | a :: l => by
    show ((a : Int) :: ofNats l).sum = _
    rw [List.sum_cons, ofNats_sum l, List.sum_cons]
    omega
theorem ixN_nat {n i : Nat} (h : i < n) : ixN n (i : Int) = some i := by
  unfold ixN
  rw [if_pos (by omega), if_pos (by omega)]
  rfl
/-- v is a tuple of these naturals -/
def IsT (H : Hp) (v : V) (l : List Nat) : Prop := ∃ a, v = .ref a ∧ H a = some (.tup (ivs l))

/-! ### heaps -/
def SameT (H H' : Hp) : Prop := ∀ a xs, H a = some (.tup xs) → H' a = some (.tup xs)
theorem SameT.refl (H : Hp) : SameT H H := fun _ _ h => h
theorem SameT.trans {H H1 H2 : Hp} (a : SameT H H1) (b : SameT H1 H2) : SameT H H2 := fun c xs h => b c xs (a c xs h)
theorem Same.t {H H' : Hp} (s : Same H H') : SameT H H' := fun a xs h => s a _ h
theorem sameT_upd {H : Hp} {a : Addr} {o : HO} (h : ∀ xs, H a ≠ some (.tup xs)) : SameT H (upd H a o) := fun b xs e => by
  by_cases hb : b = a
  · subst hb; exact absurd e (h xs)
  · rw [upd_ne hb]; exact e
theorem same_new {H : Hp} {p : Addr} {o : HO} (h : H p = none) : Same H (upd H p o) := fun b x e => by
  rw [upd_ne (ne_of_none e h)]
  exact e
theorem Same.upd {H H' : Hp} {p : Addr} {o : HO} (s : Same H H') (h : H p = none) : Same H (upd H' p o) := fun b x e => by
  rw [upd_ne (ne_of_none e h)]
  exact s b x e
theorem none_of {H H' : Hp} {p : Addr} (s : Same H H') (h : H' p = none) : H p = none := by
  cases q : H p with
  | none => rfl
  | some o => rw [s p o q] at h; cases h
def Mono {α : Type} (R : Hp → V → α → Prop) : Prop := ∀ (H H' : Hp) (v : V) (x : α), SameT H H' → R H v x → R H' v x
theorem mono_T : Mono IsT := fun _ _ _ _ s ⟨a, e, h⟩ => ⟨a, e, s a _ h⟩
def RN (_ : Hp) (v : V) (n : Nat) : Prop := v = .int (n : Int)
def RB (_ : Hp) (v : V) (b : Bool) : Prop := v = .bl b
theorem mono_N : Mono RN := fun _ _ _ _ _ h => h
theorem mono_B : Mono RB := fun _ _ _ _ _ h => h
abbrev AllR {α : Type} (R : Hp → V → α → Prop) (H : Hp) (vs : List V) (xs : List α) : Prop := Paired (R H) vs xs
theorem AllR.mono {α : Type} {R : Hp → V → α → Prop} (m : Mono R) {H H' : Hp} {vs : List V} {xs : List α} (s : SameT H H') (h : AllR R H vs xs) : AllR R H' vs xs := Paired.mapP h fun _ _ q => m _ _ _ _ s q
theorem AllR.get {α : Type} {R : Hp → V → α → Prop} {H : Hp} {vs : List V} {xs : List α} (h : AllR R H vs xs) : ∀ {i : Nat} {v : V} {x : α}, vs[i]? = some v → xs[i]? = some x → R H v x := by
  induction h with
  | nil => intro i v x h1; simp at h1
  | cons r t ih =>
    intro i v x h1 h2
    cases i with
    | zero => simp at h1 h2; subst h1 h2; exact r
    | succ i => exact ih (by simpa using h1) (by simpa using h2)
theorem AllR.at {α : Type} {R : Hp → V → α → Prop} {H : Hp} {vs : List V} {xs : List α} (h : AllR R H vs xs) {i : Nat} {x : α} (e : xs[i]? = some x) : ∃ v, vs[i]? = some v ∧ R H v x := by
  have hl := Paired.length h
  have hi := (List.getElem?_eq_some_iff.mp e).1
  exact ⟨vs[i], List.getElem?_eq_getElem (by omega), h.get (List.getElem?_eq_getElem (by omega)) e⟩
theorem AllR.append {α : Type} {R : Hp → V → α → Prop} {H : Hp} {vs us : List V} {xs ys : List α} (h : AllR R H vs xs) (k : AllR R H us ys) : AllR R H (vs ++ us) (xs ++ ys) := by
  induction h with
  | nil => exact k
  | cons r t ih => exact .cons r ih
theorem AllR.nats {H : Hp} {vs : List V} {xs : List Nat} (h : AllR RN H vs xs) : vs = ivs xs := by
  induction h with
  | nil => rfl
  | cons r t ih => rw [ih, show _ = _ from r]; rfl
theorem AllR.of_nats {H : Hp} : ∀ xs : List Nat, AllR RN H (ivs xs) xs
  | [] => .nil
  | x :: xs => .cons rfl (AllR.of_nats xs)
theorem AllR.bools {H : Hp} {vs : List V} {xs : List Bool} (h : AllR RB H vs xs) : vs = xs.map V.bl := by
  induction h with
  | nil => rfl
  | cons r t ih => rw [ih, show _ = _ from r]; rfl
theorem AllR.of_bools {H : Hp} : ∀ xs : List Bool, AllR RB H (xs.map V.bl) xs
  | [] => .nil
  | x :: xs => .cons rfl (AllR.of_bools xs)
/-- v is a tuple | a list of what R tells -/
def IsTs {α : Type} (R : Hp → V → α → Prop) (H : Hp) (v : V) (xs : List α) : Prop := ∃ a vs, v = .ref a ∧ H a = some (.tup vs) ∧ AllR R H vs xs
def IsLs {α : Type} (R : Hp → V → α → Prop) (H : Hp) (v : V) (xs : List α) : Prop := ∃ a vs, v = .ref a ∧ H a = some (.lst vs) ∧ AllR R H vs xs
theorem mono_Ts {α : Type} {R : Hp → V → α → Prop} (m : Mono R) : Mono (IsTs R) := fun _ _ _ _ s ⟨a, vs, e, h, r⟩ => ⟨a, vs, e, s a _ h, AllR.mono m s r⟩
theorem IsLs.same {α : Type} {R : Hp → V → α → Prop} (m : Mono R) {H H' : Hp} {v : V} {xs : List α} (s : Same H H') (h : IsLs R H v xs) : IsLs R H' v xs := by
  obtain ⟨a, vs, e, h, r⟩ := h
  exact ⟨a, vs, e, s a _ h, AllR.mono m (Same.t s) r⟩
theorem q_bl {Q : VK} {H : Hp} {a b : Bool} (e : a = b) (q : Q (.bl b) H) : Q (.bl a) H := by rw [e]; exact q
theorem q_int {Q : VK} {H : Hp} {a b : Int} (e : a = b) (q : Q (.int b) H) : Q (.int a) H := by rw [e]; exact q
theorem dec_eq {p q : Prop} [Decidable p] [Decidable q] (h : p ↔ q) : decide p = decide q := by
  by_cases hp : p
  · rw [decide_eq_true hp, decide_eq_true (h.mp hp)]
  · rw [decide_eq_false hp, decide_eq_false (fun z => hp (h.mpr z))]
theorem line_le {n : Nat} (h : n ≤ 1000000) : n ≤ sizeLine := Nat.le_trans h (by decide)
theorem line_lt {n : Nat} (h : n ≤ 1000000) : n < sizeLine := Nat.lt_of_le_of_lt h (by decide)

/-! ### a comprehension is a map of what is kept -/
theorem lc_map {α β : Type} {J : It} {n : Nat} {G : Hp → Prop} {Y : Nat → Hp → V → Hp → Prop} (w : Walk J n G Y) {R : Hp → V → α → Prop} (mR : Mono R) (xs : List β) (hn : xs.length = n) (hz : n ≤ 1000000) (keep : β → Bool) (f : β → α)
    {g : TG} {tt : TT} {te : TE} {vs : List Nat} {σ : L2.St} {H1 : Hp} {D : Addr} {Qd : Hp → Prop} (hD : H1 D = none) (hG : ∀ H, Same H1 H → G H)
    (hs : ∀ (i : Nat) (b : β) (x : V) (H H' : Hp) (K : V → Hp → Prop) (K0 : Hp → Prop), xs[i]? = some b → Same H1 H → Y i H x H' →
      (keep b = true → ∀ y H4, Same H H4 → R H4 y (f b) → K y H4) → (keep b = false → ∀ H4, Same H H4 → K0 H4) →
      g x (wipe σ vs) H' fun σ2 H2 => wipe σ2 vs = wipe σ vs ∧ tt σ2 H2 fun c H3 => if c = true then te σ2 H3 K else K0 H3)
    (hd : ∀ H acc, Same H1 H → H D = some (.lst acc) → AllR R H acc ((xs.filter keep).map f) → Qd H) :
    ∃ W : Nat → Nat → Hp → Prop, (∃ m, W 0 m (upd H1 D (.lst []))) ∧ ∀ i m H, W i m H →
      (J.stop i H ∧ Qd H) ∨ (J.go i H ∧ ∃ Nx : Hp → Prop, (∀ H', Nx H' → ∃ m', m' < m ∧ W (i + 1) m' H') ∧ ∀ x H', J.yld i H x H' → g x (wipe σ vs) H' fun σ2 H2 => wipe σ2 vs = wipe σ vs ∧ tt σ2 H2 fun b H3 =>
        if b = true then te σ2 H3 fun y H4 => ∃ acc, H4 D = some (.lst acc) ∧ acc.length < sizeLine ∧ Nx (upd H4 D (.lst (acc ++ [y]))) else Nx H3) := by
  refine lc_it w (fun i H => Same H1 H ∧ ∃ acc, H D = some (.lst acc) ∧ AllR R H acc (((xs.take i).filter keep).map f)) ⟨same_new hD, [], upd_same, .nil⟩ (fun i H _ p => hG H p.1) ?_ ?_
  · rintro i x H H' hi ⟨s1, acc, hacc, ha⟩ hy
    have hix : i < xs.length := by omega
    have hb : xs[i]? = some xs[i] := List.getElem?_eq_getElem hix
    have htake : xs.take (i + 1) = xs.take i ++ [xs[i]] := by rw [List.take_add_one, hb]; rfl
    have hlen : acc.length ≤ i := by
      rw [Paired.length ha, List.length_map]
      exact Nat.le_trans (List.length_filter_le _ _) (by rw [List.length_take]; omega)
    refine hs i xs[i] x H H' _ _ hb s1 hy (fun hk y H4 s4 r => ⟨acc, s4 _ _ hacc, line_lt (by omega), Same.upd (s1.trans s4) hD, acc ++ [y], upd_same, ?_⟩) (fun hk H4 s4 => ⟨s1.trans s4, acc, s4 _ _ hacc, ?_⟩)
    · have hT : SameT H4 (upd H4 D (.lst (acc ++ [y]))) := sameT_upd fun xs e => by rw [s4 _ _ hacc] at e; cases e
      rw [htake, List.filter_append, List.map_append]
      refine AllR.append (AllR.mono mR ((Same.t s4).trans hT) ha) ?_
      rw [List.filter_cons, if_pos hk]
      exact .cons (mR _ _ _ _ hT r) .nil
    · rw [htake, List.filter_append, List.map_append]
      have e0 : ([xs[i]] : List β).filter keep = [] := by rw [List.filter_cons, if_neg (by rw [hk]; exact Bool.false_ne_true)]; rfl
      rw [e0, List.map_nil, List.append_nil]
      exact AllR.mono mR (Same.t s4) ha
  · rintro H ⟨s1, acc, hacc, ha⟩
    rw [← hn, List.take_length] at ha
    exact hd H acc s1 hacc ha
theorem all_keep {α : Type} (l : List α) : l.filter (fun _ => true) = l := List.filter_eq_self.mpr fun _ _ => rfl

/-! ### defs by their names -/
section
variable {P : Program} {w : World} {K : PySem.W.Frag} {mg : Str → Option Value} {base : Heap}
/-- the def st of the text stands for x -/
def DefAt (K : PySem.W.Frag) (mg : Str → Option Value) (x : Str) (st : Stmt) (ps : List Str) : Prop := ∃ f fd, Fun K x x st f fd ∧ mg x = some (.ref f) ∧ Binds K fd ps []
/-- what stands for x keeps the promise -/
def Has (P : Program) (w : World) (K : PySem.W.Frag) (mg : Str → Option Value) (base : Heap) (CX : CXT) (k : Nat) (x : Str) (ps : List Str) (sp : Sp) : Prop :=
  ∃ f fd, FnOk P w K mg base CX k f fd ps sp ∧ mg x = some (.ref f) ∧ PySem.W.keepIn K (.ref f) = true ∧ Binds K fd ps []
theorem Has.mono {CX : CXT} {j k : Nat} {x : Str} {ps : List Str} {sp : Sp} (h : Has P w K mg base CX j x ps sp) (l : j ≤ k) : Has P w K mg base CX k x ps sp := by
  obtain ⟨f, fd, F, a⟩ := h
  exact ⟨f, fd, F.mono l, a⟩
theorem has_of {x : Str} {st : Stmt} {N ps : List Str} {k : Nat} {sp : Sp} (D : DefAt K mg x st ps) (S : FnScope N ps (defScope st)) (len : ∀ vs H Q E, sp vs H Q E → vs.length = ps.length)
    (hbody : ∀ (f : Addr) (cdv : Value) (A : Around) (outer : List Env) (s : Shared) (H : Hp) (vs : List V) (Q : VK) (E : XK), Room k (A.deeper (envOfC x (defScope st) s.heap.objs.size f cdv)) → sp vs H Q E →
      ∃ t, PSs (cxOf CX0 P w K mg base N x (defScope st) f cdv A outer s H E).nox (defBody st) t ∧ t { nx := fun _ H' => Q .non H', rt := Q } (start N vs) H) : Has P w K mg base CX0 (k + 1) x ps sp := by
  obtain ⟨f, fd, F, hm, hb⟩ := D
  exact ⟨f, fd, F.ok S len (hbody f), hm, F.kp, hb⟩
theorem has_ofX {x : Str} {st : Stmt} {N ps : List Str} {k : Nat} {sp : Sp} (D : DefAt K mg x st ps) (S : FnScope N ps (defScope st)) (len : ∀ vs H Q E, sp vs H Q E → vs.length = ps.length)
    (hbody : ∀ (f : Addr) (cdv : Value) (A : Around) (outer : List Env) (s : Shared) (H : Hp) (vs : List V) (Q : VK) (E : XK), Room k (A.deeper (envOfC x (defScope st) s.heap.objs.size f cdv)) → sp vs H Q E →
      ∃ t, PSs (cxOf (L2.CX P w) P w K mg base N x (defScope st) f cdv A outer s H E) (defBody st) t ∧ t { nx := fun _ H' => Q .non H', rt := Q } (start N vs) H) : Has P w K mg base (L2.CX P w) (k + 1) x ps sp := by
  obtain ⟨f, fd, F, hm, hb⟩ := D
  exact ⟨f, fd, F.okX S len (hbody f), hm, F.kp, hb⟩
end
section
variable {X : Cx} {k : Nat} {ps : List Str} {sp : Sp} {x : Str} {p pos : Pos} {e : Expr} {es : List Expr} {t : TA}
/-- f(..), nothing raised -/
theorem pe_f (c : Has X.prog X.w X.K X.mg X.base CX0 k x ps sp) (hr : Room k X.A) (ha : PA X (e :: es) t) (hg : Gl X x := by rfl)
    (hdb : (x == ("__debug__" : Str)) = false := by decide) (he : starEach (e :: es) X.env = (false, eval e X.env) :: starEach es X.env := by rfl) (hpl : (backTo pos (starEach es X.env)).any (·.1) = false := by rfl) :
    PE X (.Call (.Name x p) (e :: es) [] pos) (tCall sp [] E0 t) := by
  obtain ⟨f, fd, F, hm, hk, hb⟩ := c
  exact pe_call F hr hg hm hk hb .nil pass0 ha hdb he hpl
/-- f(..), what it raises leaves this def, too -/
theorem pe_fX {E : XK} (c : Has X.prog X.w X.K X.mg X.base (L2.CX X.prog X.w) k x ps sp) (hr : Room k X.A) (tk : Takes X (fun cls d _ H => E cls d H)) (ha : PA X (e :: es) t) (hg : Gl X x := by rfl)
    (hdb : (x == ("__debug__" : Str)) = false := by decide) (he : starEach (e :: es) X.env = (false, eval e X.env) :: starEach es X.env := by rfl) (hpl : (backTo pos (starEach es X.env)).any (·.1) = false := by rfl) :
    PE X (.Call (.Name x p) (e :: es) [] pos) (tCall sp [] E t) := by
  obtain ⟨f, fd, F, hm, hk, hb⟩ := c
  exact pe_call F hr hg hm hk hb .nil (passes_call tk fun _ _ _ _ h => h) ha hdb he hpl
/-- f(..) within a try -/
theorem pe_fS {W : WX} (c : Has X.prog X.w X.K X.mg X.base (L2.CX X.prog X.w) k x ps sp) (hr : Room k X.A) (tk : Takes X W) (ha : PA X (e :: es) t) (hg : Gl X x := by rfl)
    (hdb : (x == ("__debug__" : Str)) = false := by decide) (he : starEach (e :: es) X.env = (false, eval e X.env) :: starEach es X.env := by rfl) (hpl : (backTo pos (starEach es X.env)).any (·.1) = false := by rfl) :
    PE X (.Call (.Name x p) (e :: es) [] pos) (tCallS sp (WE W) t) := by
  obtain ⟨f, fd, F, hm, hk, hb⟩ := c
  exact pe_callS F hr hg hm hk hb (fun σ => passAt tk σ) ha hdb he hpl
/-- a constant of the text -/
def ConAt (mg : Str → Option Value) (x : Str) (z : Int) : Prop := ∃ t, mg x = some (.int z t)
theorem pe_con_at {z : Int} (h : ConAt X.mg x z) (hg : Gl X x := by rfl) (hd : (x == ("__debug__" : Str)) = false := by decide) : PE X (.Name x pos) (tC (.int z)) := by
  obtain ⟨t, h⟩ := h
  exact pe_glob hg h ⟨_, rfl⟩ hd
end

/-! ### sum of a tuple -/
def rSumT (K : PySem.W.Frag) : List V → Hp → VK → Prop := fun vs H Q => ∃ (a : Addr) (ns : List Int), vs = [V.ref a] ∧ SqT K H a (ns.map V.int) ∧ Q (.int ns.sum) H
theorem cr_sumT {X : Cx} (hc : X.calm = true) : CallR X (.builtin "sum") (rSumT X.K) := by
  intro pins s σ H vs us Q I r h
  obtain ⟨a, ns, rfl, hs, q⟩ := h
  obtain ⟨its, rv, hl, _⟩ := I.tuple hs
  rw [Vals.ref1 r]
  have hi := rv.ints
  obtain ⟨xs, e⟩ := hi.allInts.items
  have hn : numsOf (intItems xs).toList = ns := by rw [← e]; exact hi.numsOf
  rw [nums_intItems] at hn
  rw [e] at hl
  refine PySem.W.ktm_sumG (I.ok.hd hc) hl fun h' tk t' hk => ?_
  rw [preSum_eq, List.take_of_length_le (by simp), hn]
  exact ⟨.int _, H, I.kept hk, ⟨_, rfl⟩, q⟩

/-! ### enumerate of a tuple -/
section
open AutoSeq1 (wpAny_loadPart')
theorem meets_enumerate_newT (l : Addr) (items : Array Value) (n : Nat) (dct : Option Addr) (sl : Array (Option Value)) :
    Meets (Builtin.«enumerate.__new__» ⟨[.type "enumerate", .ref l], []⟩) (fun _ R s => s.heap.get? l = some { cls := .type "tuple", data := .seq items n, dict := dct, slots := sl } ∧
      R (.ok (.ret (.ref (s.heap.push { cls := .type "tuple_iterator", data := .fields #[.ref l, .int 0 0] }).objs.size)))
        { s with heap := (s.heap.push { cls := .type "tuple_iterator", data := .fields #[.ref l, .int 0 0] }).push { cls := .type "enumerate", data := .fields #[.none, .bool false, .ref s.heap.objs.size, rawInt 0, .none, .none] } }) :=
  .of_wp fun prog w A R s h => by
    obtain ⟨hp, g, d, tk, os⟩ := s; obtain ⟨hl, h⟩ := h
    have hsub := sub_enumerate
    have hL : Heap.IsTuple (Shared.heap ⟨hp, g, d, tk, os⟩) l items := ⟨_, hl, rfl, n, rfl⟩
    wp_walk using wpAny_loadPart' hl
    refine wpAny_stack_any fun st => wpAny_pure ?_
    split
    · rename_i c _ _ _ _ _
      cases (c == Value.type "enumerate")
      · wp_walk using wpAny_loadPart' hl, wpAny_pyIter_tuple hL
        exact ⟨_, rfl, h⟩
      · wp_walk using wpAny_loadPart' hl, wpAny_pyIter_tuple hL
        exact ⟨_, rfl, h⟩
    · wp_walk using wpAny_loadPart' hl, wpAny_pyIter_tuple hL
      exact ⟨_, rfl, h⟩
end
theorem call_enumerate_tuple {prog : Program} {w : World} {A : Around} {E : Value → Shared → Prop} {s : Shared} {l : Addr} {items : Array Value} {Q : Value → Shared → Prop} (hL : IsTup s.heap l items)
    (h : ∀ h', IsEnum h' (s.heap.objs.size + 1) s.heap.objs.size 0 .none → h'.IsTupleIter s.heap.objs.size l 0 → h'.objs.size = s.heap.objs.size + 2 →
      (∀ b o, s.heap.get? b = some o → h'.get? b = some o) → Q (.ref (s.heap.objs.size + 1)) { s with heap := h' }) :
    wpAny (model prog w) A (call (.type "enumerate") [.ref l]) Q E s := by
  obtain ⟨⟨c, dct, dt, sl⟩, hl, hc, n, hd⟩ := hL
  replace hc : c = .type "tuple" := hc
  replace hd : dt = .seq items n := hd
  subst hc hd
  refine callType_new F.called_enumerate (by decide) (F.typeCall_enumerate_1 _) (F.newCall_enumerate_1 _) (fun obj => F.args_object_init_2 obj _) F.entry_enumerate_new
    (meets_enumerate_newT l items n dct sl) ⟨hl, ?_⟩
  have hz : (s.heap.push { cls := .type "tuple_iterator", data := .fields #[.ref l, .int 0 0] }).objs.size = s.heap.objs.size + 1 := Heap.size_push ..
  show _ ∧ _
  rw [hz]
  have he : IsEnum ((s.heap.push { cls := .type "tuple_iterator", data := .fields #[.ref l, .int 0 0] }).push
      { cls := .type "enumerate", data := .fields #[.none, .bool false, .ref s.heap.objs.size, rawInt 0, .none, .none] }) (s.heap.objs.size + 1) s.heap.objs.size 0 .none := by
    have := Heap.get?_push_size (s.heap.push { cls := .type "tuple_iterator", data := .fields #[.ref l, .int 0 0] })
      (o := { cls := .type "enumerate", data := .fields #[.none, .bool false, .ref s.heap.objs.size, rawInt 0, .none, .none] }) rfl
    rw [hz] at this; exact this
  refine ⟨⟨_, he, rfl⟩, h _ he ⟨_, Heap.get?_push_of_some _ (Heap.get?_push_size _ rfl), rfl, rfl⟩ (by rw [Heap.size_push, hz]) fun b o x => Heap.get?_push_of_some _ (Heap.get?_push_of_some _ x)⟩
/-- the tuple at a, each item in a new pair -/
def Itet (K : PySem.W.Frag) (a : Addr) : It :=
  ⟨fun i H => ∃ (xs : List V) (x : V), SqT K H a xs ∧ xs[i]? = some x, fun i H v H' => ∃ T x, v = .ref T ∧ H T = none ∧ H' = upd H T (.tup [.int (i : Nat), x]) ∧ ∀ xs, SqT K H a xs → xs[i]? = some x, fun i H => ∃ xs : List V, SqT K H a xs ∧ xs.length ≤ i⟩
theorem turn_enumT {P : Program} {w : World} {K : PySem.W.Frag} {elts : List Expr} {kk : Nat} {tpos : Pos} (a e it : Addr) :
    Turn P w K (.Tuple elts kk tpos) (Itet K a) [e, it] e (fun i h => (∃ old, IsEnum h e it ((i : Nat) : Int) old) ∧ h.IsTupleIter it a i ∧ e ≠ it) where
  mem := by simp
  obj := fun i h st b hb => by
    obtain ⟨⟨old, he⟩, ⟨o, ho, hc, hd⟩, _⟩ := st
    have e' : b = e ∨ b = it := by simpa using hb
    rcases e' with z | z
    · rw [z]; exact ⟨_, he, fun v q => nomatch q⟩
    · rw [z]; exact ⟨o, ho, fun v q => by rw [hd] at q; cases q⟩
  keep := fun i h h' st k => let ⟨⟨old, he⟩, hi, hne⟩ := st; ⟨⟨old, k e (by simp) _ he⟩, hi.at fun o q => k it (by simp) o q, hne⟩
  item := by
    intro X hP hw hK hc i pins s σ H E I hf st hg
    subst hP hw hK
    obtain ⟨⟨old, he⟩, hit, hne⟩ := st
    obtain ⟨xs, x, hq, hx⟩ := hg
    obtain ⟨its, rv, p, hz⟩ := I.tuple hq
    obtain ⟨u, hu, ru⟩ := rv.get hx
    have hel : e < s.heap.objs.size := Heap.lt_size he
    have hil : it < s.heap.objs.size := by obtain ⟨_, q, _⟩ := hit; exact Heap.lt_size q
    have hai : a ≠ it := fun z => by
      obtain ⟨o1, e1, c1, _⟩ := hit
      obtain ⟨o2, e2, c2, _⟩ := p
      rw [z, e1] at e2
      cases e2
      rw [c1] at c2
      exact absurd (Value.type.inj c2) (by decide)
    have hae : e ∉ [it, a] := fun z => by
      rcases List.mem_cons.mp z with z | z
      · exact hne z
      · have z := List.mem_singleton.mp z
        obtain ⟨o2, e2, c2, _⟩ := p
        rw [← z, he] at e2
        cases e2
        exact absurd (Value.type.inj c2) (by decide)
    have D := PySem.Draws.tuple (prog := X.prog) (w := X.w) (A := X.A.in1) (I.ok.hd hc) it a hai its.toArray
    have hin : i < its.toArray.size := by
      have := (List.getElem?_eq_some_iff.mp hu).1
      simpa using this
    refine wpAny_pyNext_enum_itemD D he ⟨hit, p⟩ hin hne hae fun x' h' tk hx' ho hst' hT hsz hk => ?_
    have ex : x' = u := by
      have hx'' : its[i]? = some x' := by simpa using hx'
      rw [hu] at hx''
      exact (Option.some.inj hx'').symm
    subst ex
    refine ⟨_, rfl, wpAny_letOwnedTupleGo_enum (s := { s with heap := h', toks := tk + 1 }) ho fun h'' he' sb => ?_⟩
    have hT2 : h''.get? s.heap.objs.size = some { cls := .type "tuple", data := .seq #[.int i tk, x'] } := (sb.2 _ (Nat.ne_of_gt hel)).trans hT
    have new : ObjOk X.prog X.w (upd H s.heap.objs.size (.tup [.int (i : Nat), x])) h'' s.heap.objs.size (.tup [.int (i : Nat), x]) :=
      ⟨by show 2 ≤ sizeLine; decide, [.int i tk, x'], .cons ⟨_, rfl⟩ (.cons ru .nil), ⟨_, hT2, rfl, _, rfl⟩⟩
    have I1 : Inv X pins σ (upd H s.heap.objs.size (.tup [.int (i : Nat), x])) { s with heap := h'', toks := tk + 1 } :=
      I.turnedNew (ch := [e, it]) (fun b ob hb q => (sb.2 b (fun z => hb (by simp [z]))).trans (hk b ob (fun z => hb (by simp [z])) (fun z => hb (by simp [z])) q)) hf (Nat.le_refl _) new
    refine ⟨.ref s.heap.objs.size, _, I1, rfl, ⟨_, x, rfl, I.hok.fresh (Nat.le_refl _), rfl, fun ys hy => by rw [I.tuple_inj hy hq]; exact hx⟩, ⟨⟨x', ?_⟩, hst'.1.at fun o q => (sb.2 it (Ne.symm hne)).trans q, hne⟩, fun b hb => ?_⟩
    · have e1 : ((i + 1 : Nat) : Int) = (i : Int) + 1 := by omega
      rw [e1]; exact he'
    · have hb' : b < s.heap.objs.size := by
        have e' : b = e ∨ b = it := by simpa using hb
        rcases e' with z | z
        · rw [z]; exact hel
        · rw [z]; exact hil
      rw [upd_ne (Nat.ne_of_lt hb')]
      exact (hf b hb).1
  done := by
    intro X hP hw hK hc i pins s σ H E I hf st hg
    subst hP hw hK
    obtain ⟨⟨old, he⟩, hit, hne⟩ := st
    obtain ⟨xs, hq, hx⟩ := hg
    obtain ⟨its, rv, p, hz⟩ := I.tuple hq
    obtain ⟨f0, f1, f2, f3, f4, f5⟩ := hf it (by simp)
    have hl := rv.length
    have hai : a ≠ it := fun z => by
      obtain ⟨o1, e1, c1, _⟩ := hit
      obtain ⟨o2, e2, c2, _⟩ := p
      rw [z, e1] at e2
      cases e2
      rw [c1] at c2
      exact absurd (Value.type.inj c2) (by decide)
    have hT : s.TypeIs (.ref e) "enumerate" := ⟨_, he, rfl⟩
    unfold pyNext
    refine wpAny_bind (wpAny_attempt (wpAny_callSpecial?_slot (name := Str.ofString "__next__") hT F.slot_enumerate_next
      (wpAny_call_entry F.slot_enumerate_next hT F.entry_enumerate_next ?_ (F.args_enumerate_next_1 _))))
    show wpAny _ _ (field (.ref e) 2 >>= _) _ _ _
    refine wpAny_bind (wpAny_field he rfl (x := .ref it) rfl ?_)
    refine wpAny_bind (wpAny_nextOf_tuple_end (I.ok.hd hc) hit p (by simp; omega) fun h' x he' hx' => ?_)
    obtain ⟨o, ho, hc⟩ := hx'
    refine wpAny_bind (wpAny_isInstance (T := "StopIteration") (b := true) ⟨o, ho, hc⟩ isSubtype_stop ?_)
    exact wpAny_pure ⟨rfl, I.turned (t' := s.toks) (fun b o hb q => he' b o hb q) f0 f1 f3 f4 f5⟩
  self := fun A i s Q E st h => let ⟨⟨_, he⟩, _⟩ := st; wpAny_pyIter_enum he h
def iEnumT (K : PySem.W.Frag) (ta : TA) : TI := fun σ H R => ta σ H fun vs H1 => ∃ a xs, vs = [.ref a] ∧ SqT K H1 a xs ∧ R (Itet K a) H1
theorem pi_enumT {X : Cx} {e : Expr} {ta : TA} {p pos tpos : Pos} {elts : List Expr} {kk : Nat} (hg : Gl X "enumerate") (hm : X.mg "enumerate" = none) (ha : PA X [e] ta) (hs : starEach [e] X.env = [(false, eval e X.env)] := by rfl) :
    PI X (.Tuple elts kk tpos) (.Call (.Name "enumerate" p) [e] [] pos) (iEnumT X.K ta) := by
  refine ⟨fun pins s σ H R I h => ?_⟩
  refine Call_ (ld_blt I hg hm boot_enumerate (PyProof.Rows.callWith_type1 (thn (ha.run pos pins s σ H _ I h) fun us s1 ⟨vs, H1, I1, r1, q1⟩ => ?_) hs rfl))
  obtain ⟨a, xs, ex, hq, q⟩ := q1
  subst ex
  cases r1 with
  | cons r rr =>
    cases rr
    cases r
    obtain ⟨its, rv, p', hz⟩ := I1.tuple hq
    refine call_enumerate_tuple p' fun h' he hit hsz hk => wpAny_pyIter_enum he ?_
    have I2 : Inv X pins σ H1 { s1 with heap := h' } := I1.kept (t' := s1.toks) hk
    refine ⟨s1.heap.objs.size + 1, [s1.heap.objs.size + 1, s1.heap.objs.size], _, _, H1, rfl, I2, turn_enumT a (s1.heap.objs.size + 1) s1.heap.objs.size, ⟨⟨.none, he⟩, hit, Nat.succ_ne_self _⟩, fun b hb => ?_, q⟩
    have e' : b = s1.heap.objs.size + 1 ∨ b = s1.heap.objs.size := by simpa using hb
    have hle : s1.heap.objs.size ≤ b := by
      rcases e' with z | z
      · rw [z]; exact Nat.le_add_right _ _
      · rw [z]; exact Nat.le_refl _
    exact I1.fpOk hle (I1.hok.fresh hle)
theorem walk_enumT {K : PySem.W.Frag} {a : Addr} {xs : List V} : Walk (Itet K a) xs.length (fun H => SqT K H a xs) (YPair (fun i => some (.int (i : Nat))) (fun i => xs[i]?)) := by
  refine ⟨fun i _ hi q => ⟨xs, xs[i], q, by simp [hi]⟩, fun _ q => ⟨xs, q, Nat.le_refl _⟩, fun i H v H' _ q y => ?_⟩
  obtain ⟨T, x, h1, h2, h3, h4⟩ := y
  exact ⟨T, .int (i : Nat), x, h1, h2, h3, rfl, h4 xs q⟩
end RW
/-! Values: membership among naturals, pairs as tuples, the order of pairs, what stands for moves and pairs. -/
namespace RW
open PySem PySem.Spec PyProof.Rows L2 Rub
theorem at_heap {F : Hp → Prop} {H : Hp} (H' : Hp) (e : H = H') (h : F H') : F H := by
  rw [e]
  exact h
theorem ivs_atz {l : List Nat} {z : Int} {i : Nat} (e : z = (i : Int)) (h : i < l.length) : atI (ivs l) z = some (.int ((l.getD i 0 : Nat) : Int)) := by
  rw [e]
  exact ivs_at h
theorem yes_of {σ : L2.St} {H : Hp} {Q : Bool → Hp → Prop} (h : Q true H) : tYes σ H Q := h
/-- readings that bear K, to be named within comprehensions -/
abbrev rLenS (K : PySem.W.Frag) : List V → Hp → VK → Prop := fun xs H Q => ∃ p ys, xs = [.ref p] ∧ (SqL K H p ys ∨ SqT K H p ys) ∧ Q (.int ys.length) H
abbrev rTupOf (K : PySem.W.Frag) : List V → Hp → VK → Prop := fun xs H Q => ∃ p ys, xs = [.ref p] ∧ ((SqL K H p ys ∧ ∀ l, H l = none → Q (.ref l) (upd H l (.tup ys))) ∨ (SqT K H p ys ∧ Q (.ref p) H))
theorem cut_3 {l : List Nat} {i : Nat} {z y : Int} (hz : z = (i : Int)) (hy : y = ((i + 3 : Nat) : Int)) (h : i + 3 ≤ l.length) : cutV (ivs l) (some z) (some y) = ivs [l.getD i 0, l.getD (i + 1) 0, l.getD (i + 2) 0] := by
  subst hz hy
  unfold cutV
  rw [HT.sIx_nat, HT.sIx_nat, ivs_len, show min i l.length = i by omega, show min (i + 3) l.length = i + 3 by omega, show i + 3 - i = 3 by omega]
  unfold ivs
  rw [← List.map_drop, ← List.map_take]
  congr 1
  have e0 : i < l.length := by omega
  have e1 : i + 1 < l.length := by omega
  have e2 : i + 2 < l.length := by omega
  rw [List.drop_eq_getElem_cons e0, List.drop_eq_getElem_cons e1, List.drop_eq_getElem_cons e2, List.getD_eq_getElem?_getD, List.getD_eq_getElem?_getD, List.getD_eq_getElem?_getD, List.getElem?_eq_getElem e0, List.getElem?_eq_getElem e1, List.getElem?_eq_getElem e2]
  rfl
theorem hasP_same {c : Cfg} {f t : Nat} : hasP c (f, f, t) = decide (2 ≤ c.getD f 0) := if_pos rfl
theorem hasP_diff {c : Cfg} {f s t : Nat} (h : f ≠ s) : hasP c (f, s, t) = (decide (1 ≤ c.getD f 0) && decide (1 ≤ c.getD s 0)) := if_neg h
theorem inV_ivs (f : Nat) (l : List Nat) : inV (.int (f : Int)) (ivs l) = l.contains f := by
  unfold inV ivs
  rw [List.any_map, Bool.eq_iff_iff, List.any_eq_true, List.contains_iff_mem]
  constructor
  · rintro ⟨x, hx, e⟩
    have e' : ((x : Int) == (f : Int)) = true := e
    have : x = f := by have := eq_of_beq e'; omega
    subst this; exact hx
  · intro h
    exact ⟨f, h, show ((f : Int) == (f : Int)) = true from beq_self_eq_true _⟩
theorem flat_ivs (l : List Nat) : (ivs l).all flatV = true := by
  unfold ivs
  rw [List.all_map, List.all_eq_true]
  intro x _
  rfl
/-- a move's, a pair's items -/
def ml (m : Mv) : List Nat := [m.1, m.2.1, m.2.2]
def pl (p : Nat × Nat) : List Nat := [p.1, p.2]
def IsM (H : Hp) (v : V) (m : Mv) : Prop := IsT H v (ml m)
def IsP (H : Hp) (v : V) (p : Nat × Nat) : Prop := IsT H v (pl p)
theorem mono_M : Mono IsM := fun _ _ _ _ s h => mono_T _ _ _ _ s h
theorem mono_P : Mono IsP := fun _ _ _ _ s h => mono_T _ _ _ _ s h
theorem lexLt_pl (p q : Nat × Nat) : HT.lexLt (ofNats (pl p)) (ofNats (pl q)) = ltP p q := by
  obtain ⟨a, b⟩ := p
  obtain ⟨c, d⟩ := q
  show (if (a : Int) = (c : Int) then (if (b : Int) = (d : Int) then HT.lexLt [] [] else decide ((b : Int) < (d : Int))) else decide ((a : Int) < (c : Int))) = (decide (a < c) || (a == c && decide (b < d)))
  by_cases h : a = c
  · subst h
    rw [if_pos rfl, decide_eq_false (Nat.lt_irrefl a), Bool.false_or, beq_self_eq_true, Bool.true_and]
    by_cases h2 : b = d
    · subst h2
      rw [if_pos rfl, decide_eq_false (Nat.lt_irrefl b)]
      rfl
    · rw [if_neg (by omega)]
      exact dec_eq (by omega)
  · rw [if_neg (by omega)]
    have : (a == c) = false := by simpa using h
    rw [this, Bool.false_and, Bool.or_false]
    exact dec_eq (by omega)
/-! ### pairs as data -/
def pD (p : Nat × Nat) : PyData := .tuple [.int p.1, .int p.2]
theorem pD_lay (p : Nat × Nat) : (pD p).canLay0 = true := by simp [pD, PyData.canLay0, PyData.canLayAll0]
theorem pD_depth (p : Nat × Nat) : (pD p).depth = 1 := by simp [pD, PyData.depth, PyData.depthAll]
theorem pDs_lay : ∀ ps : List (Nat × Nat), PyData.canLayAll0 (ps.map pD) = true
  | [] => by simp [PyData.canLayAll0]
  | p :: ps => by simp [PyData.canLayAll0, pD_lay p, pDs_lay ps]
theorem pDs_depth : ∀ ps : List (Nat × Nat), PyData.depthAll (ps.map pD) ≤ 1
  | [] => by simp [PyData.depthAll]
  | p :: ps => by
    have h1 := pDs_depth ps
    have h2 := pD_depth p
    simp only [List.map_cons, PyData.depthAll]
    omega
theorem pD_shaped (p : Nat × Nat) : SeqAt.shaped (pD p) = true := by
  have h := pD_depth p
  show ((pD p).canLay0 && decide ((pD p).depth ≤ 64)) = true
  rw [Bool.and_eq_true]
  exact ⟨pD_lay p, decide_eq_true (by omega)⟩
theorem pDs_shaped (ps : List (Nat × Nat)) : SeqAt.shaped (.list (ps.map pD)) = true := by
  have h1 := pDs_depth ps
  have h2 : PyData.depth (.list (ps.map pD)) ≤ 64 := by
    simp only [PyData.depth]
    omega
  show (PyData.canLay0 (.list (ps.map pD)) && decide (PyData.depth (.list (ps.map pD)) ≤ 64)) = true
  rw [Bool.and_eq_true]
  exact ⟨by simp only [PyData.canLay0]; exact pDs_lay ps, decide_eq_true h2⟩
theorem pD_eqv (p q : Nat × Nat) : PyData.eqv (pD p) (pD q) = decide (p = q) := by
  obtain ⟨a, b⟩ := p
  obtain ⟨c, d⟩ := q
  have e : PyData.eqv (pD (a, b)) (pD (c, d)) = (((a : Int) == (c : Int)) && (((b : Int) == (d : Int)) && true)) := by simp only [pD, PyData.eqv, PyData.eqvAll]
  rw [e]
  by_cases h : ((a, b) : Nat × Nat) = (c, d)
  · cases h
    simp
  · rw [decide_eq_false h]
    by_cases h1 : a = c
    · by_cases h2 : b = d
      · exact absurd (by rw [h1, h2]) h
      · have q : ((b : Int) == (d : Int)) = false := beq_eq_false_iff_ne.mpr (by omega)
        rw [q, Bool.false_and, Bool.and_false]
    · have q : ((a : Int) == (c : Int)) = false := beq_eq_false_iff_ne.mpr (by omega)
      rw [q, Bool.false_and]
theorem any_pD (ps : List (Nat × Nat)) (q : Nat × Nat) : ((ps.map pD).any fun z => PyData.eqv z (pD q)) = ps.contains q := by
  rw [List.any_map, Bool.eq_iff_iff, List.any_eq_true, List.contains_iff_mem]
  constructor
  · rintro ⟨x, hx, e⟩
    have e' : PyData.eqv (pD x) (pD q) = true := e
    rw [pD_eqv] at e'
    rw [← of_decide_eq_true e']
    exact hx
  · intro h
    exact ⟨q, h, by show PyData.eqv (pD q) (pD q) = true; rw [pD_eqv]; exact decide_eq_true rfl⟩
theorem dp_T {K : PySem.W.Frag} {H : Hp} {v : V} {p : Nat × Nat} (h : IsP H v p) : Dp K H v (pD p) := by
  obtain ⟨a, rfl, ha⟩ := h
  exact .tup (.inl (.inl ha)) (.cons (.int _) (.cons (.int _) .nil))
theorem dp_Ps {K : PySem.W.Frag} {H : Hp} {vs : List V} {ps : List (Nat × Nat)} (h : AllR IsP H vs ps) : DpAll K H vs (ps.map pD) := by
  induction h with
  | nil => exact .nil
  | cons r t ih => exact .cons (dp_T r) ih
theorem dp_L {K : PySem.W.Frag} {H : Hp} {v : V} {ps : List (Nat × Nat)} (h : IsLs IsP H v ps) : Dp K H v (.list (ps.map pD)) := by
  obtain ⟨a, vs, rfl, ha, r⟩ := h
  exact .lst (.inl (.inl ha)) (dp_Ps r)
theorem Room.u65 {k : Nat} {A : Around} (r : Room k A) : A.units + 65 < cLine := by have := r.un; omega
/-! ### ranges with a step -/
theorem size_2 {n : Nat} : Builtin.Range.rangeSize 0 (n : Int) 2 = (((n + 1) / 2 : Nat) : Int) := by
  rw [rangeSize_pos (by omega) (by omega)]
  omega
theorem size_3 {n : Nat} : Builtin.Range.rangeSize 0 (n : Int) 3 = (((n + 2) / 3 : Nat) : Int) := by
  rw [rangeSize_pos (by omega) (by omega)]
  omega
theorem small_gen {a b c m : Int} (e : Builtin.Range.rangeSize a b c = m) (hc : 0 < c) (ha : -(2 ^ 62) ≤ a) (ha' : a < 2 ^ 62) (hb : -(2 ^ 62) ≤ b) (hb' : b < 2 ^ 62) (hc' : c < 2 ^ 20) (hm : 0 ≤ m) (hm' : m < 2 ^ 20) (h1 : 0 ≤ m * c) (h2 : m * c < 2 ^ 40) : Builtin.Range.small a b c = true := by
  unfold Builtin.Range.small
  rw [e]
  simp only [Builtin.Range.rangeFitsLong, Bool.and_eq_true, Bool.or_eq_true, decide_eq_true_eq, beq_iff_eq, show c > 0 from hc, if_true]
  omega
theorem rgC_2 {n : Nat} (hn : n ≤ 1000000) : RgC 0 (n : Int) 2 ((n + 1) / 2) := ⟨by decide, by decide, small_gen size_2 (by decide) (by decide) (by decide) (by omega) (by omega) (by decide) (by omega) (by omega) (by omega) (by omega), size_2⟩
theorem rgC_3 {n : Nat} (hn : n ≤ 1000000) : RgC 0 (n : Int) 3 ((n + 2) / 3) := ⟨by decide, by decide, small_gen size_3 (by decide) (by decide) (by decide) (by omega) (by omega) (by decide) (by omega) (by omega) (by omega) (by omega), size_3⟩
/-! ### the built-ins' names are free -/
structure Bi (mg : Str → Option Value) : Prop where
  len : mg "len" = none
  range : mg "range" = none
  zip : mg "zip" = none
  all : mg "all" = none
  any : mg "any" = none
  sum : mg "sum" = none
  tuple : mg "tuple" = none
  list : mg "list" = none
  max : mg "max" = none
  enum : mg "enumerate" = none
/-- a def of the text, from what the top has left -/
theorem def_mk {K : PySem.W.Frag} {mg : Str → Option Value} {h : Heap} {x : Str} {st : Stmt} {ps : List Str} {f : Addr} {oc : Value} {od an : Option Addr} {osl : Array (Option Value)} {kV doc pm cdv ct : Value} (X : K.In h) (G : h.Ns mainGlobals mg)
    (a : PySem.W.nsIn K mainGlobals x = some (some (.ref f))) (l : K.lookup f = some ⟨oc, od, .func (PySem.W.fnOf x x (defArgs st) (defBody st) (defScope st) .none kV doc pm an cdv ct), osl⟩) (c : PySem.W.codeIn K cdv x = true) (k : PySem.W.keepIn K (.ref f) = true)
    (hb : ∀ (kV doc pm : Value) (an : Option Addr) (cdv ct : Value) (us : List Value), us.length = ps.length → bindArgs (PySem.W.fnOf x x (defArgs st) (defBody st) (defScope st) .none kV doc pm an cdv ct) ⟨us, []⟩ = pure (ps.zip us)) : DefAt K mg x st ps := by
  have F := fun_mk (st := st) l c k
  exact ⟨f, _, F, PySem.W.mg_of X G a, F.binds hb⟩
theorem exm_self {K : PySem.W.Frag} {S : Addr} (h1 : PySem.W.subIn K (.ref S) (.type "BaseException") = some true) (h2 : PySem.W.isClsIn K S = true) (h3 : PySem.W.typeIn K (.ref S) = some (.type "type")) (h4 : PySem.W.subIn K (.ref S) (.ref S) = some true) :
    PySem.W.exmOne K (.ref S) (.ref S) = some true := by
  have e1 : (PySem.W.subIn K (.ref S) (.type "BaseException") == some true) = true := by rw [h1] <;> rfl
  have e2 : ((PySem.W.clsIn K S).isSome && PySem.W.typeIn K (.ref S) == some (.type "type")) = true := by
    have h2' : (PySem.W.clsIn K S).isSome = true := h2
    rw [h2', h3] <;> rfl
  show (if (PySem.W.subIn K (.ref S) (.type "BaseException") == some true) = true then (if ((PySem.W.clsIn K S).isSome && PySem.W.typeIn K (.ref S) == some (.type "type")) = true then PySem.W.subIn K (.ref S) (.ref S) else none) else none) = some true
  rw [if_pos e1, if_pos e2]
  exact h4
/-- what is refused by the code z -/
def Ref (E : XK) (C : Addr) (H : Hp) (z : Int) : Prop := ∀ d H', Same H H' → H' d = some (.xd [("code", .int z)]) → E (.ref C) (some d) H'
theorem Ref.of {E : XK} {C : Addr} {H H1 : Hp} {z : Int} (r : Ref E C H z) (s : Same H H1) : Ref E C H1 z := fun d H' s' e => r d H' (s.trans s') e
/-- a list of ints, or a refusal by its code -/
def Outs (Q : VK) (E : XK) (C : Addr) (H : Hp) (zs : List Int) : Prop := (∀ p H', Same H H' → H' p = some (.lst (zs.map V.int)) → Q (.ref p) H') ∧ ∀ z, zs = [z] → Ref E C H z
theorem Outs.of {Q : VK} {E : XK} {C : Addr} {H H1 : Hp} {zs : List Int} (o : Outs Q E C H zs) (s : Same H H1) : Outs Q E C H1 zs := ⟨fun p H' s' e => o.1 p H' (s.trans s') e, fun z e => (o.2 z e).of s⟩
theorem code_at (z : Int) : List.lookup ("code" : Str) [(("code" : Str), V.int z)] = some (.int z) := by simp [List.lookup]
theorem edgesOf_at : ∀ (ns : List Nat) (i : Nat) , ns.length % 2 = 0 → i < ns.length / 2 → (edgesOf ns)[i]? = some (ns.getD (2 * i) 0, ns.getD (2 * i + 1) 0)
  | [], i, _, h => by simp at h
  | [_], i, h, _ => by simp at h
  | a :: b :: r, 0, _, _ => rfl
  | a :: b :: r, i + 1, he, h => by
    have ih := edgesOf_at r i (by simp at he; omega) (by simp at h; omega)
    show (edgesOf r)[i]? = _
    rw [ih]
    rfl
theorem edgesOf_length : ∀ (ns : List Nat), ns.length % 2 = 0 → (edgesOf ns).length = ns.length / 2
  | [], _ => rfl
  | [_], h => by simp at h
  | a :: b :: r, he => by
    have ih := edgesOf_length r (by simp at he; omega)
    show (edgesOf r).length + 1 = (r.length + 1 + 1) / 2
    rw [ih]
    omega
theorem edgesOf_range (ns : List Nat) (he : ns.length % 2 = 0) : ((List.range ((ns.length + 1) / 2)).filter fun _ => true).map (fun i => (ns.getD (2 * i) 0, ns.getD (2 * i + 1) 0)) = edgesOf ns := by
  rw [all_keep]
  apply List.ext_getElem?
  intro i
  rw [List.getElem?_map]
  by_cases h : i < ns.length / 2
  · rw [List.getElem?_range (by omega), edgesOf_at ns i he h]
    rfl
  · rw [List.getElem?_eq_none (by simp; omega), List.getElem?_eq_none (by rw [edgesOf_length ns he]; omega)]
    rfl
theorem edgesOf_le : ∀ ns : List Nat, (edgesOf ns).length ≤ ns.length
  | [] => Nat.le_refl _
  | [_] => by simp [edgesOf]
  | a :: b :: r => by
    have := edgesOf_le r
    show (edgesOf r).length + 1 ≤ r.length + 1 + 1
    omega
theorem movesOf_at : ∀ (ns : List Nat) (i : Nat) , ns.length % 3 = 0 → i < ns.length / 3 → (movesOf ns)[i]? = some (ns.getD (3 * i) 0, ns.getD (3 * i + 1) 0, ns.getD (3 * i + 2) 0)
  | [], i, _, h => by simp at h
  | [_], i, h, _ => by simp at h
  | [_, _], i, h, _ => by simp at h
  | a :: b :: c :: r, 0, _, _ => rfl
  | a :: b :: c :: r, i + 1, he, h => by
    have ih := movesOf_at r i (by simp at he; omega) (by simp at h; omega)
    show (movesOf r)[i]? = _
    rw [ih]
    rfl
theorem movesOf_length : ∀ (ns : List Nat), ns.length % 3 = 0 → (movesOf ns).length = ns.length / 3
  | [], _ => rfl
  | [_], h => by simp at h
  | [_, _], h => by simp at h
  | a :: b :: c :: r, he => by
    have ih := movesOf_length r (by simp at he; omega)
    show (movesOf r).length + 1 = (r.length + 1 + 1 + 1) / 3
    rw [ih]
    omega
theorem movesOf_range (ns : List Nat) (he : ns.length % 3 = 0) : ((List.range ((ns.length + 2) / 3)).filter fun _ => true).map (fun i => (ns.getD (3 * i) 0, ns.getD (3 * i + 1) 0, ns.getD (3 * i + 2) 0)) = movesOf ns := by
  rw [all_keep]
  apply List.ext_getElem?
  intro i
  rw [List.getElem?_map]
  by_cases h : i < ns.length / 3
  · rw [List.getElem?_range (by omega), movesOf_at ns i he h]
    rfl
  · rw [List.getElem?_eq_none (by simp; omega), List.getElem?_eq_none (by rw [movesOf_length ns he]; omega)]
    rfl
theorem mem_movesOf : ∀ (ns : List Nat) (n : Nat) (m : Mv), (∀ v ∈ ns, v < n) → m ∈ movesOf ns → m.1 < n ∧ m.2.1 < n ∧ m.2.2 < n
  | [], n, m, _, h => by simp [movesOf] at h
  | [_], n, m, _, h => by simp [movesOf] at h
  | [_, _], n, m, _, h => by simp [movesOf] at h
  | a :: b :: c :: r, n, m, hv, h => by
    rcases List.mem_cons.mp (show m ∈ (a, b, c) :: movesOf r from h) with e | h
    · subst e
      exact ⟨hv a (by simp), hv b (by simp), hv c (by simp)⟩
    · exact mem_movesOf r n m (fun v hvr => hv v (by simp [hvr])) h
end RW
/-! The arguments as naturals. -/
namespace RW
open PySem PySem.Spec PyProof.Rows L2 Rub
open PySem.W (Codec WData)
theorem nat_arg {hi : Int} {z : Int} (h : Codec.within (.int (_root_.Int.ofNat 0) hi) z = true) : ∃ n : Nat, z = (n : Int) := by
  have h : Codec.inInt 0 hi z = true := h
  unfold Codec.inInt at h
  simp only [Bool.and_eq_true, decide_eq_true_eq] at h
  exact ⟨z.toNat, by omega⟩
theorem all_nats {hi : Int} : ∀ {l : List Int}, (l.all (Codec.inInt 0 hi)) = true → ∃ ns : List Nat, l = ofNats ns
  | [], _ => ⟨[], rfl⟩
  | z :: l, h => by
    rw [List.all_cons, Bool.and_eq_true] at h
    obtain ⟨ns, e⟩ := all_nats h.2
    obtain ⟨n, e2⟩ := nat_arg (hi := hi) h.1
    exact ⟨n :: ns, by rw [e, e2]; rfl⟩
theorem nats_arg {most : Nat} {hi : Int} {l : List Int} (h : Codec.within (.list 0 most (.int (_root_.Int.ofNat 0) hi)) l = true) : ∃ ns : List Nat, l = ofNats ns ∧ ns.length ≤ most := by
  have h : (Codec.inNat 0 most l.length && l.all (Codec.inInt 0 hi)) = true := h
  rw [Bool.and_eq_true] at h
  obtain ⟨ns, e⟩ := all_nats h.2
  refine ⟨ns, e, ?_⟩
  have h1 := h.1
  unfold Codec.inNat at h1
  simp only [Bool.and_eq_true, decide_eq_true_eq] at h1
  have : l.length = ns.length := by rw [e]; exact List.length_map ..
  omega
theorem dw_list {K : PySem.W.Frag} {H : Hp} {v : V} {ns : List Nat} (h : Dw K H v (.list ((ofNats ns).map WData.int))) : ∃ a, v = .ref a ∧ SqL K H a (ivs ns) := by
  cases h with
  | lst hs ha =>
    have e := ints_dw _ _ ha
    subst e
    rw [← ivs_ints] at hs
    exact ⟨_, rfl, hs⟩
theorem dw_int {K : PySem.W.Frag} {H : Hp} {v : V} {z : Int} (h : Dw K H v (.int z)) : v = .int z := by
  cases h
  rfl
end RW
/-! Dicts whose keys are configurations. -/
namespace RW
open PySem PySem.Spec PyProof.Rows L2 Rub
def kof (c : Cfg) : List Key := c.map fun (n : Nat) => Sum.inl (n : Int)
theorem kof_map (c : Cfg) : (kof c).map kV = ivs c := by
  unfold kof ivs
  rw [List.map_map]
  rfl
theorem kof_inj : ∀ {a b : Cfg}, kof a = kof b → a = b
  | [], [], _ => rfl
  | [], _ :: _, e => by simp [kof] at e
  | _ :: _, [], e => by simp [kof] at e
  | x :: xs, y :: ys, e => by
    have e : (Sum.inl (x : Int) : Key) :: kof xs = (Sum.inl (y : Int) : Key) :: kof ys := e
    injection e with e1 e2
    have e1 := Sum.inl.inj e1
    rw [show x = y by omega, kof_inj e2]
theorem IsT.key {H : Hp} {v : V} {c : Cfg} (h : IsT H v c) : ∃ b, v = .ref b ∧ H b = some (.tup ((kof c).map kV)) := by
  obtain ⟨b, e, h⟩ := h
  exact ⟨b, e, by rw [kof_map]; exact h⟩
/-- a dict from configurations -/
def kdv (acc : List Cfg) (val : Cfg → V) : List (List Key × V) := acc.map fun c => (kof c, val c)
theorem any_kdv (acc : List Cfg) (val : Cfg → V) (c : Cfg) : ((kdv acc val).any fun kv => decide (kv.1 = kof c)) = decide (c ∈ acc) := by
  unfold kdv
  rw [List.any_map, Bool.eq_iff_iff, List.any_eq_true, decide_eq_true_eq]
  constructor
  · rintro ⟨x, hx, e⟩
    have e : kof x = kof c := of_decide_eq_true e
    rw [← kof_inj e]
    exact hx
  · intro h
    exact ⟨c, h, decide_eq_true rfl⟩
theorem valV_kdv : ∀ (acc : List Cfg) (val : Cfg → V) (c : Cfg), valV (kdv acc val) (kof c) = if c ∈ acc then some (val c) else none
  | [], _, _ => rfl
  | a :: acc, val, c => by
    have ih := valV_kdv acc val c
    by_cases h : a = c
    · subst h
      rw [if_pos (List.mem_cons_self ..)]
      exact valV_pos (p := (kof a, val a)) rfl
    · have hk : ¬ kof a = kof c := fun e => h (kof_inj e)
      show valV ((kof a, val a) :: kdv acc val) (kof c) = _
      rw [valV_neg (p := (kof a, val a)) hk, ih]
      by_cases hm : c ∈ acc
      · rw [if_pos hm, if_pos (List.mem_cons_of_mem _ hm)]
      · rw [if_neg hm, if_neg (fun z => by
          rcases List.mem_cons.mp z with z | z
          · exact h z.symm
          · exact hm z)]
theorem putK_new' {acc : List Cfg} {val : Cfg → V} {c : Cfg} {v : V} (h : c ∉ acc) : putK (kdv acc val) (kof c) v = kdv acc val ++ [(kof c, v)] := by
  refine putK_new v ?_
  rw [valV_kdv, if_neg h]
abbrev kd (acc : List Cfg) : List (List Key × V) := kdv acc fun _ => .bl true
theorem putK_kd (acc : List Cfg) (c : Cfg) : putK (kd acc) (kof c) (.bl true) = kd (addNew acc c) := by
  unfold addNew
  by_cases h : c ∈ acc
  · rw [if_pos h]
    unfold putK
    rw [any_kdv, decide_eq_true h, if_pos rfl]
    unfold kd kdv
    rw [List.map_map]
    apply List.map_congr_left
    intro x _
    show (if kof x = kof c then (kof x, V.bl true) else (kof x, V.bl true)) = (kof x, V.bl true)
    split <;> rfl
  · rw [if_neg h, putK_new' h]
    unfold kd kdv
    rw [List.map_append]
    rfl
theorem kd_len (acc : List Cfg) : (kd acc).length = acc.length := List.length_map ..
theorem isKeys_kd {H : Hp} : ∀ {acc : List Cfg} {bs : List Addr}, IsKeys H (kd acc) bs → AllR IsT H (bs.map V.ref) acc
  | [], bs, h => by cases h; exact .nil
  | c :: acc, bs, h => by
    have h : Paired (fun (p : List Key × V) b => H b = some (.tup (p.1.map kV))) ((kof c, V.bl true) :: kd acc) bs := h
    cases h with
    | cons r t => exact .cons ⟨_, rfl, by rw [← kof_map]; exact r⟩ (isKeys_kd t)
theorem same_of_ne {H H' : Hp} {l : Addr} {o : HO} (s : Same H H') (hl : H l = none) : Same H (upd H' l o) := Same.upd s hl
/-- lists of lists, none of them at l -/
def NotAt {α : Type} (R : Hp → V → α → Prop) (l : Addr) (H : Hp) (v : V) (x : α) : Prop := R H v x ∧ v ≠ .ref l
theorem notAt_upd {α : Type} {R : Hp → V → α → Prop} (m : Mono R) {l : Addr} {o : HO} {H H' : Hp} {vs : List V} {xs : List (List α)} (s : Same H H') (hl : ∀ ys, H' l ≠ some (.tup ys)) (h : AllR (NotAt (IsLs R) l) H vs xs) : AllR (NotAt (IsLs R) l) (upd H' l o) vs xs := by
  refine Paired.mapP h fun v x ⟨r, hne⟩ => ⟨?_, hne⟩
  obtain ⟨a, us, rfl, ha, hr⟩ := r
  have hal : a ≠ l := fun z => hne (by rw [z])
  exact ⟨a, us, rfl, by rw [upd_ne hal]; exact s _ _ ha, AllR.mono m ((Same.t s).trans (sameT_upd hl)) hr⟩
end RW
namespace RW
open PySem PySem.Spec PyProof.Rows L2 Rub
def top (i : Nat) : Stmt := PySem.Challenge.pw_neighbourpairs_s05_optimal_configuration.main.body.getD i (.Pass ⟨0, 0, 0, 0⟩)
abbrev s_init : Stmt := inClass (top 14) 0
abbrev s_rubbling_moves : Stmt := top 1
abbrev s_has_pebbles : Stmt := top 2
abbrev s_moved : Stmt := top 3
abbrev s_all_behind : Stmt := top 4
abbrev s_longer_rows : Stmt := top 6
abbrev s_configurations : Stmt := top 7
abbrev s_reach_of : Stmt := top 8
abbrev s_all_reaches : Stmt := top 9
abbrev s_first_complete : Stmt := top 10
abbrev s_optimal : Stmt := top 11
abbrev s_want : Stmt := top 15
abbrev s_pairs_of : Stmt := top 18
abbrev s_is_rising : Stmt := top 19
abbrev s_are_edges : Stmt := top 20
abbrev s_are_adjacent : Stmt := top 21
abbrev s_neighbours : Stmt := top 22
abbrev s_read_graph : Stmt := top 23
abbrev s_told_optimal : Stmt := top 25
abbrev s_optimal_configuration : Stmt := top 27
/-- what the top has written of the error's class -/
structure RefTxt (K : PySem.W.Frag) (mg : Str → Option Value) (C : Addr) : Prop where
  oex : OexC K C
  gC : mg "Refused" = some (.ref C)
  nc : PySem.W.findIn K (.ref C) "code" = some none
  xf : XfC K C
  te : PySem.W.exmOne K (.ref C) (.ref C) = some true
  mV : mg "ValueError" = none
  vV : PySem.W.findCls K (.type "ValueError") (.type "type") "__init__" = some (.val (.builtin "ValueError.__init__"))
  fn : ∃ fI fd, Fun K "__init__" "Refused.__init__" s_init fI fd ∧ L2.Binds K fd ["self", "code"] [] ∧ PySem.W.findIn K (.ref C) "__init__" = some (some (.ref fI)) ∧ PySem.W.typeIn K (.ref fI) = some (.type "function")
section
variable {P : Program} {w : World} {K : PySem.W.Frag} {mg : Str → Option Value} {base : Heap} {C : Addr}
/-! ### init -/
theorem sc_init : FnScope ["self", "code"] ["self", "code"] (defScope s_init) := ⟨rfl, rfl, rfl, by decide +kernel, rfl, by decide +kernel, by decide +kernel⟩
def sp_init (K : PySem.W.Frag) : Sp := fun vs H Q _ => ∃ (a C : Addr) (z : Int), vs = [.ref a, .int z] ∧ OexC K C ∧ PySem.W.findIn K (.ref C) "code" = some none ∧ H a = some (exo a C none) ∧
  ∀ dx, H dx = none → dx ≠ a → Q .non (upd (upd H dx (exd dx [("code", .int z)])) a (exo a C (some dx)))
theorem ok_init {f : Addr} {fd : FuncData} (F : Fun K "__init__" "Refused.__init__" s_init f fd) (mV : mg "ValueError" = none)
    (vV : PySem.W.findCls K (.type "ValueError") (.type "type") "__init__" = some (.val (.builtin "ValueError.__init__"))) : FnOk P w K mg base CX0 1 f fd ["self", "code"] (sp_init K) := by
  refine F.ok sc_init (fun vs H Q E h => ?_) (fun cdv A outer s H vs Q E hr h => ?_)
  · obtain ⟨_, _, _, rfl, _⟩ := h
    rfl
  · obtain ⟨a, C, z, rfl, T, hno, ha, q⟩ := h
    refine ⟨_, pss_cons (ps_expr (pe_veinit rfl mV vV (pa_cons (pv 0) (pa_cons pe_str pa_nil)))) (pss_one (ps_ost (pv 0) (pv 1))), ?_⟩
    exact ⟨_, rfl, a, C, [.str "refused"], rfl, by decide, T, ha, _, rfl, _, rfl, a, C, rfl, T, hno, .inl ⟨ha, fun dx nd ne => q dx nd ne⟩⟩
/-! ### rubbling_moves -/
theorem sc_rubbling_moves : FnScope ["graph", "found", "target", "near", "first", "second"] ["graph"] (defScope s_rubbling_moves) := ⟨rfl, rfl, rfl, by decide +kernel, rfl, by decide +kernel, by decide +kernel⟩
def sp_rubbling_moves : Sp := fun vs H Q _ => ∃ (vg : V) (gr : Gr), vs = [vg] ∧ IsTs IsT H vg gr ∧ SmallGr gr ∧ ∀ v H', Same H H' → IsLs IsM H' v (rubMoves gr) → Q v H'
theorem ok_rubbling_moves (D : DefAt K mg "rubbling_moves" s_rubbling_moves ["graph"]) (B : Bi mg) : Has P w K mg base CX0 1 "rubbling_moves" ["graph"] sp_rubbling_moves := by
  refine has_of D sc_rubbling_moves (fun vs H Q E h => ?_) (fun fa cdv A outer s H vs Q E hr h => ?_)
  · obtain ⟨_, _, rfl, _⟩ := h
    rfl
  · obtain ⟨_, gr, rfl, ⟨g, gs, rfl, hg, rg⟩, hsm, q⟩ := h
    refine ⟨_, pss_cons (ps_set (i := 1) sc_rubbling_moves.nd rfl (.inl rfl) (pe_lst pa_nil))
      (pss_cons (ps_for PassesOwn.never rfl (pi_enumT rfl B.enum (pa_cons (pv 0) pa_nil)) (pg_tup rfl (pgs_cons (pg_name (i := 2) sc_rubbling_moves.nd rfl (.inr rfl)) (pgs_cons (pg_name (i := 3) sc_rubbling_moves.nd rfl (.inl rfl)) pgs_nil)))
        (pss_one (ps_for PassesOwn.never rfl (pi_tup (pv 3)) (pg_name (i := 4) sc_rubbling_moves.nd rfl (.inr rfl))
          (pss_one (ps_expr (pe_bm PySem.F.plainAttrs_list PySem.F.slot_list_extend PySem.F.type_list_extend mt_extend (pv 1) (pa_cons (pe_lc (own := [("second", 5)]) (g := gName 5) rfl sc_rubbling_moves.nd (pi_tup (pv 3))
            (blkOk_by (own := [("second", 5)]) (N := ["graph", "found", "target", "near", "first", "second"]) (sc := defScope s_rubbling_moves) (by decide +kernel)) (fun _ _ _ _ _ => pg_name (i := 5) sc_rubbling_moves.nd rfl (.inl rfl))
            (fun _ _ _ _ _ => pts_one (pt_cmpR op_le (pv 4) (pv 5) (nomark _))) (fun _ _ _ _ _ => pe_tup (pa_cons (pv 4) (pa_cons (pv 5) (pa_cons (pv 2) pa_nil))))) pa_nil)))))))
      (pss_one (ps_ret (pv 1)))), ?_⟩
    refine ⟨Nat.zero_le _, fun l nl => ?_⟩
    refine ⟨_, rfl, g, gs, rfl, .inl (.inl (same_new nl _ _ hg)), ?_⟩
    have hgl : gs.length = gr.length := Paired.length rg
    refine for_it (walk_enumT (xs := gs)) (fun i σ H' => ∃ x2 x3 x4 vs, σ = [some (.ref g), some (.ref l), x2, x3, x4, none] ∧ Same H H' ∧ H' l = some (.lst vs) ∧ AllR IsM H' vs ((gr.zipIdx.take i).flatMap fun p => movesAt p.1 p.2)) ⟨none, none, none, [], rfl, same_new nl, upd_same, .nil⟩ (fun i σ H' _ p => ?_) ?_ ?_
    · obtain ⟨_, _, _, _, _, s1, _⟩ := p
      exact .inl (.inl (s1 _ _ hg))
    · rintro i x σ H1 H2 hi ⟨x2, x3, x4, us, rfl, s1, hl, hu⟩ ⟨T, y1, y2, rfl, nT, rfl, f1, f2⟩
      have hy1 : y1 = .int (i : Nat) := (Option.some.inj f1).symm
      subst hy1
      have hm : gr[i]? = some gr[i] := List.getElem?_eq_getElem (by omega)
      have r2 : IsT H y2 gr[i] := rg.get f2 hm
      have hnear := hsm.2 _ (List.getElem_mem (show i < gr.length by omega))
      have htk : (gr.zipIdx.take (i + 1)).flatMap (fun p => movesAt p.1 p.2) = (gr.zipIdx.take i).flatMap (fun p => movesAt p.1 p.2) ++ movesAt gr[i] i := by
        have e : gr.zipIdx[i]? = some (gr[i], i) := by rw [List.getElem?_zipIdx, hm]; simp
        rw [List.take_add_one, e, List.flatMap_append]
        simp
      have hpre := movesPre_len hsm i
      generalize (gr.zipIdx.take i).flatMap (fun p => movesAt p.1 p.2) = pre at hu htk hpre
      generalize hnr : gr[i] = near at r2 htk hnear
      have s2 : Same H1 (upd H1 T (.tup [.int (i : Nat), y2])) := same_new nT
      obtain ⟨na, rfl, hna⟩ := mono_T _ _ _ _ (Same.t (s1.trans s2)) r2
      refine ⟨T, _, rfl, .inl (.inl upd_same), rfl, _, _, rfl, _, _, rfl, rfl, ?_⟩
      refine ⟨_, rfl, na, rfl, ⟨_, .inl (.inl hna)⟩, ?_⟩
      refine for_it (walk_tup (xs := ivs near)) (fun j σ H' => ∃ x4 vs, σ = [some (.ref g), some (.ref l), some (.int (i : Nat)), some (.ref na), x4, none] ∧ Same H H' ∧ H' na = some (.tup (ivs near)) ∧ H' l = some (.lst vs) ∧
          AllR IsM H' vs (pre ++ (near.take j).flatMap fun f => (near.filter fun s => decide (f ≤ s)).map fun s => (f, s, i)))
        ⟨x4, us, rfl, s1.trans s2, hna, s2 _ _ hl, by rw [List.take_zero, List.flatMap_nil, List.append_nil]; exact AllR.mono mono_M (Same.t s2) hu⟩ (fun j σ H' _ p => ?_) ?_ ?_
      · obtain ⟨_, _, _, _, h3, _⟩ := p
        exact .inl (.inl h3)
      · rintro j x σ H3 _ hj ⟨x4', ws, rfl, s3, hna3, hl3, hw⟩ ⟨rfl, hx⟩
        rw [ivs_len] at hj
        have hfx : x = .int ((near.getD j 0 : Nat) : Int) := by
          rw [ivs_get hj] at hx
          exact (Option.some.inj hx).symm
        subst hfx
        have hmj : near[j]? = some (near.getD j 0) := by rw [List.getD_eq_getElem?_getD, List.getElem?_eq_getElem hj]; rfl
        generalize near.getD j 0 = f at hmj
        have htj : (near.take (j + 1)).flatMap (fun f => (near.filter fun s => decide (f ≤ s)).map fun s => (f, s, i)) = (near.take j).flatMap (fun f => (near.filter fun s => decide (f ≤ s)).map fun s => (f, s, i)) ++ (near.filter fun s => decide (f ≤ s)).map fun s => (f, s, i) := by
          rw [List.take_add_one, hmj, List.flatMap_append]
          simp
        have hfew : ((near.take j).flatMap (fun f => (near.filter fun s => decide (f ≤ s)).map fun s => (f, s, i))).length ≤ 25 := by
          refine Nat.le_trans (flatMap_len (k := 5) _ fun f _ => ?_) (Nat.le_trans (Nat.mul_le_mul_right 5 (show (near.take j).length ≤ 5 by rw [List.length_take]; omega)) (by decide))
          rw [List.length_map]
          exact Nat.le_trans (List.length_filter_le _ _) hnear
        have hlast : ((near.filter fun s => decide (f ≤ s)).map fun s => (f, s, i)).length ≤ 5 := by
          rw [List.length_map]
          exact Nat.le_trans (List.length_filter_le _ _) hnear
        refine ⟨_, rfl, .inl ⟨rfl, _, .inl (.inl hl3)⟩, _, rfl, na, rfl, ⟨_, .inl (.inl hna3)⟩, fun L nL => ?_⟩
        refine lc_map (walk_tup (xs := ivs near)) mono_M near (ivs_len near).symm (by rw [ivs_len]; omega) (fun s => decide (f ≤ s)) (fun s => (f, s, i)) nL (fun H4 s4 => .inl (.inl (s4 _ _ hna3))) ?_ ?_
        · rintro k b x H4 _ KK K0 hb s4 ⟨rfl, hx4⟩ k1 k0
          have hxb : x = .int (b : Int) := by
            unfold ivs at hx4
            rw [List.getElem?_map, hb] at hx4
            exact (Option.some.inj hx4).symm
          subst hxb
          refine ⟨rfl, _, rfl, _, rfl, _, _, rfl, rfl, _, rfl, ite2 (fun e => ?_) (fun e => ?_)⟩
          · have e' : f ≤ b := by
              have := of_decide_eq_true e
              omega
            exact ⟨_, rfl, _, rfl, _, rfl, (by show 3 ≤ sizeLine; decide), fun p np => k1 (decide_eq_true e') _ _ (same_new np) ⟨p, rfl, upd_same⟩⟩
          · have e' : ¬ f ≤ b := fun z => e (decide_eq_true (by omega))
            exact k0 (decide_eq_false e') _ (Same.refl _)
        · intro H4 acc s4 hacc hr4
          have hlL : l ≠ L := ne_of_none hl3 nL
          refine ⟨l, L, ws, acc, rfl, rfl, s4 _ _ hl3, hacc, ?_, ?_⟩
          · rw [Paired.length hw, Paired.length hr4, List.length_append]
            exact line_le (by omega)
          · have hT : SameT H4 (upd H4 l (.lst (ws ++ acc))) := sameT_upd fun xs e => by rw [s4 _ _ hl3] at e; cases e
            refine ⟨_, _, rfl, Same.upd (s3.trans s4) nl, hT _ _ (s4 _ _ hna3), upd_same, ?_⟩
            rw [htj, ← List.append_assoc]
            exact AllR.append (AllR.mono mono_M ((Same.t s4).trans hT) hw) (AllR.mono mono_M hT hr4)
      · rintro σ H3 ⟨x4', ws, rfl, s3, hna3, hl3, hw⟩
        refine ⟨_, _, _, ws, rfl, s3, hl3, ?_⟩
        rw [ivs_len, List.take_length] at hw
        rw [htk]
        exact hw
    · rintro σ H1 ⟨x2, x3, x4, us, rfl, s1, hl, hu⟩
      rw [List.take_of_length_le (by rw [List.length_zipIdx, hgl]; exact Nat.le_refl _)] at hu
      exact ⟨_, rfl, q _ _ s1 ⟨l, us, rfl, hl, hu⟩⟩
/-! ### has_pebbles -/
theorem sc_has_pebbles : FnScope ["configuration", "move", "first", "second", "target"] ["configuration", "move"] (defScope s_has_pebbles) := ⟨rfl, rfl, rfl, by decide +kernel, rfl, by decide +kernel, by decide +kernel⟩
def sp_has_pebbles : Sp := fun vs H Q _ => ∃ (vc vm : V) (c : Cfg) (f s t : Nat), vs = [vc, vm] ∧ IsT H vc c ∧ IsM H vm (f, s, t) ∧ f < c.length ∧ s < c.length ∧ Q (.bl (hasP c (f, s, t))) H
theorem ok_has_pebbles (D : DefAt K mg "has_pebbles" s_has_pebbles ["configuration", "move"]) : Has P w K mg base CX0 1 "has_pebbles" ["configuration", "move"] sp_has_pebbles := by
  refine has_of D sc_has_pebbles (fun vs H Q E h => ?_) (fun fa cdv A outer s H vs Q E hr h => ?_)
  · obtain ⟨_, _, _, _, _, _, rfl, _⟩ := h
    rfl
  · obtain ⟨_, _, c, f, s, t, rfl, ⟨a, rfl, ha⟩, ⟨b, rfl, hb⟩, hf, hs, q⟩ := h
    refine ⟨_, pss_cons (ps_asg (pv 1) (pg_tup rfl (pgs_cons (pg_name (i := 2) sc_has_pebbles.nd rfl (.inl rfl)) (pgs_cons (pg_name (i := 3) sc_has_pebbles.nd rfl (.inl rfl)) (pgs_cons (pg_name (i := 4) sc_has_pebbles.nd rfl (.inl rfl)) pgs_nil)))))
      (pss_cons (ps_if (pt_cmpR op_eq (pv 2) (pv 3) (nomark _)) (pss_one (ps_ret (pe_cmpR op_gt (pe_ix ix_tup (pv 0) (pv 2) (fun _ _ => rfl)) pe_int (nomark _)))) pss_nil)
      (pss_one (ps_ret (pe_and (pe_cmpR op_gt (pe_ix ix_tup (pv 0) (pv 2) (fun _ _ => rfl)) pe_int (nomark _)) (pe_one (pe_cmpR op_gt (pe_ix ix_tup (pv 0) (pv 3) (fun _ _ => rfl)) pe_int (nomark _))))))), ?_⟩
    have hb : H b = some (.tup [.int (f : Int), .int (s : Int), .int (t : Int)]) := hb
    refine ⟨_, rfl, b, _, rfl, .inl (.inl hb), rfl, _, _, rfl, _, _, rfl, _, _, rfl, rfl, ?_⟩
    refine ⟨_, rfl, _, rfl, rfl, _, rfl, ite2 (fun e => ?_) (fun e => ?_)⟩
    · have ef : f = s := by
        have := V.int.inj (of_decide_eq_true e)
        omega
      subst ef
      refine ⟨_, rfl, _, rfl, a, _, _, _, rfl, rfl, .inl (.inl ha), ivs_at hf, _, _, rfl, rfl, q_bl ?_ q⟩
      rw [hasP_same]
      exact dec_eq (by omega)
    · have ef : f ≠ s := fun z => e (decide_eq_true (by rw [z]))
      refine ⟨_, rfl, _, rfl, a, _, _, _, rfl, rfl, .inl (.inl ha), ivs_at hf, _, _, rfl, rfl, _, rfl, ite2 (fun e1 => ?_) (fun e1 => ?_)⟩
      · refine ⟨_, rfl, _, rfl, a, _, _, _, rfl, rfl, .inl (.inl ha), ivs_at hs, _, _, rfl, rfl, q_bl ?_ q⟩
        have := of_decide_eq_true e1
        rw [hasP_diff ef, decide_eq_true (show 1 ≤ c.getD f 0 by omega), Bool.true_and]
        exact dec_eq (by omega)
      · refine q_bl ?_ q
        have : ¬ (0 : Int) < (c.getD f 0 : Nat) := fun z => e1 (decide_eq_true z)
        rw [hasP_diff ef, decide_eq_false (show ¬ 1 ≤ c.getD f 0 by omega), Bool.false_and]
/-! ### moved -/
theorem sc_moved : FnScope ["configuration", "move", "first", "second", "target", "found"] ["configuration", "move"] (defScope s_moved) := ⟨rfl, rfl, rfl, by decide +kernel, rfl, by decide +kernel, by decide +kernel⟩
def sp_moved : Sp := fun vs H Q _ => ∃ (vc vm : V) (c : Cfg) (f s t : Nat), vs = [vc, vm] ∧ IsT H vc c ∧ IsM H vm (f, s, t) ∧ f < c.length ∧ s < c.length ∧ t < c.length ∧ hasP c (f, s, t) = true ∧ ∀ v H', Same H H' → IsT H' v (mvd c (f, s, t)) → Q v H'
theorem ok_moved (D : DefAt K mg "moved" s_moved ["configuration", "move"]) (B : Bi mg) : Has P w K mg base CX0 1 "moved" ["configuration", "move"] sp_moved := by
  refine has_of D sc_moved (fun vs H Q E h => ?_) (fun fa cdv A outer s H vs Q E hr h => ?_)
  · obtain ⟨_, _, _, _, _, _, rfl, _⟩ := h
    rfl
  · obtain ⟨_, _, c, f, s, t, rfl, ⟨a, rfl, ha⟩, ⟨b, rfl, hb⟩, hf, hs, ht, hp, q⟩ := h
    refine ⟨_, pss_cons (ps_asg (pv 1) (pg_tup rfl (pgs_cons (pg_name (i := 2) sc_moved.nd rfl (.inl rfl)) (pgs_cons (pg_name (i := 3) sc_moved.nd rfl (.inl rfl)) (pgs_cons (pg_name (i := 4) sc_moved.nd rfl (.inl rfl)) pgs_nil)))))
      (pss_cons (ps_set (i := 5) sc_moved.nd rfl (.inl rfl) (pe_callTy call_list_of rfl B.list boot_list (pa_cons (pv 0) pa_nil)))
      (pss_cons (ps_asg (pe_op op_sub (pe_ix ix_list (pv 5) (pv 2) (fun _ _ => rfl)) pe_int) (pg_sub (pv 5) (pv 2) set_list))
      (pss_cons (ps_asg (pe_op op_sub (pe_ix ix_list (pv 5) (pv 3) (fun _ _ => rfl)) pe_int) (pg_sub (pv 5) (pv 3) set_list))
      (pss_cons (ps_asg (pe_op op_add (pe_ix ix_list (pv 5) (pv 4) (fun _ _ => rfl)) pe_int) (pg_sub (pv 5) (pv 4) set_list))
      (pss_one (ps_ret (pe_callTy call_tuple_of rfl B.tuple boot_tuple (pa_cons (pv 5) pa_nil)))))))), ?_⟩
    have h1 : 1 ≤ c.getD f 0 := by
      by_cases e : f = s
      · subst e
        rw [hasP_same] at hp
        have := of_decide_eq_true hp
        omega
      · rw [hasP_diff e, Bool.and_eq_true] at hp
        exact of_decide_eq_true hp.1
    have h2 : 1 ≤ (c.set f (c.getD f 0 - 1)).getD s 0 := by
      by_cases e : f = s
      · subst e
        rw [hasP_same] at hp
        have := of_decide_eq_true hp
        rw [List.getD_eq_getElem?_getD, List.getElem?_set_self hf]
        show 1 ≤ c.getD f 0 - 1
        omega
      · rw [hasP_diff e, Bool.and_eq_true] at hp
        rw [List.getD_eq_getElem?_getD, List.getElem?_set_ne e, ← List.getD_eq_getElem?_getD]
        exact of_decide_eq_true hp.2
    have hb : H b = some (.tup [.int (f : Int), .int (s : Int), .int (t : Int)]) := hb
    have hs1 : s < (c.set f (c.getD f 0 - 1)).length := by rw [List.length_set]; exact hs
    have ht1 : t < ((c.set f (c.getD f 0 - 1)).set s ((c.set f (c.getD f 0 - 1)).getD s 0 - 1)).length := by rw [List.length_set, List.length_set]; exact ht
    refine ⟨_, rfl, b, _, rfl, .inl (.inl hb), rfl, _, _, rfl, _, _, rfl, _, _, rfl, rfl, ?_⟩
    refine ⟨_, rfl, a, _, rfl, .inr (.inl (.inl ha)), fun l hl => ?_⟩
    refine ⟨_, rfl, _, rfl, l, _, _, _, rfl, rfl, .inl (.inl upd_same), ivs_at hf, _, _, rfl, rfl, _, rfl, _, rfl, l, _, _, _, rfl, rfl, upd_same, ixN_nat (by rw [ivs_len]; exact hf), ?_⟩
    refine at_heap (upd H l (.lst (ivs (c.set f (c.getD f 0 - 1))))) (by rw [upd_upd]; show upd H l (.lst ((ivs c).set f (.int (((c.getD f 0 : Nat) : Int) - 1)))) = _; rw [show ((c.getD f 0 : Nat) : Int) - 1 = ((c.getD f 0 - 1 : Nat) : Int) by omega, ivs_set]) ?_
    refine ⟨_, rfl, _, rfl, l, _, _, _, rfl, rfl, .inl (.inl upd_same), ivs_at hs1, _, _, rfl, rfl, _, rfl, _, rfl, l, _, _, _, rfl, rfl, upd_same, ixN_nat (by rw [ivs_len]; exact hs1), ?_⟩
    refine at_heap (upd H l (.lst (ivs ((c.set f (c.getD f 0 - 1)).set s ((c.set f (c.getD f 0 - 1)).getD s 0 - 1))))) (by
      rw [upd_upd]
      show upd H l (.lst ((ivs (c.set f (c.getD f 0 - 1))).set s (.int ((((c.set f (c.getD f 0 - 1)).getD s 0 : Nat) : Int) - 1)))) = _
      rw [show (((c.set f (c.getD f 0 - 1)).getD s 0 : Nat) : Int) - 1 = (((c.set f (c.getD f 0 - 1)).getD s 0 - 1 : Nat) : Int) by omega, ivs_set]) ?_
    refine ⟨_, rfl, _, rfl, l, _, _, _, rfl, rfl, .inl (.inl upd_same), ivs_at ht1, _, _, rfl, rfl, _, rfl, _, rfl, l, _, _, _, rfl, rfl, upd_same, ixN_nat (by rw [ivs_len]; exact ht1), ?_⟩
    refine at_heap (upd H l (.lst (ivs (mvd c (f, s, t))))) (by
      rw [upd_upd]
      show upd H l (.lst ((ivs ((c.set f (c.getD f 0 - 1)).set s ((c.set f (c.getD f 0 - 1)).getD s 0 - 1))).set t (.int (((((c.set f (c.getD f 0 - 1)).set s ((c.set f (c.getD f 0 - 1)).getD s 0 - 1)).getD t 0 : Nat) : Int) + 1)))) = _
      rw [show ((((c.set f (c.getD f 0 - 1)).set s ((c.set f (c.getD f 0 - 1)).getD s 0 - 1)).getD t 0 : Nat) : Int) + 1 = ((((c.set f (c.getD f 0 - 1)).set s ((c.set f (c.getD f 0 - 1)).getD s 0 - 1)).getD t 0 + 1 : Nat) : Int) by omega, ivs_set]
      rfl) ?_
    exact ⟨_, rfl, l, _, rfl, .inl ⟨.inl (.inl upd_same), fun p hp' => q _ _ (Same.upd (same_new hl) (none_of (same_new hl) hp')) ⟨p, rfl, upd_same⟩⟩⟩
/-! ### all_behind -/
theorem sc_all_behind : FnScope ["configuration", "moves", "move"] ["configuration", "moves"] (defScope s_all_behind) := ⟨rfl, rfl, rfl, by decide +kernel, rfl, by decide +kernel, by decide +kernel⟩
def sp_all_behind : Sp := fun vs H Q _ => ∃ (vc vm : V) (c : Cfg) (ms : List Mv), vs = [vc, vm] ∧ IsT H vc c ∧ IsLs IsM H vm ms ∧ ms.length ≤ 1000 ∧ MovesIn c.length ms ∧ ∀ v H', Same H H' → IsLs IsT H' v (allBehind c ms) → Q v H'
theorem ok_all_behind (D : DefAt K mg "all_behind" s_all_behind ["configuration", "moves"]) (G1 : Has P w K mg base CX0 1 "has_pebbles" ["configuration", "move"] sp_has_pebbles)
    (G2 : Has P w K mg base CX0 1 "moved" ["configuration", "move"] sp_moved) : Has P w K mg base CX0 2 "all_behind" ["configuration", "moves"] sp_all_behind := by
  refine has_of D sc_all_behind (fun vs H Q E h => ?_) (fun fa cdv A outer s H vs Q E hr h => ?_)
  · obtain ⟨_, _, _, _, rfl, _⟩ := h
    rfl
  · obtain ⟨vc, _, c, ms, rfl, hc, ⟨l, us, rfl, hl, rl⟩, hz, hin, q⟩ := h
    refine ⟨_, pss_one (ps_ret (pe_lc (own := [("move", 2)]) (g := gName 2) rfl sc_all_behind.nd (pi_list (pv 1))
      (blkOk_by (own := [("move", 2)]) (N := ["configuration", "moves", "move"]) (sc := defScope s_all_behind) (by decide +kernel)) (fun _ _ _ _ _ => pg_name (i := 2) sc_all_behind.nd rfl (.inl rfl))
      (fun _ _ _ _ _ => pts_one (pt_val (pe_f G1 hr (pa_cons (pv 0) (pa_cons (pv 2) pa_nil))))) (fun _ _ _ _ _ => pe_f G2 hr (pa_cons (pv 0) (pa_cons (pv 2) pa_nil))))), ?_⟩
    refine ⟨_, rfl, l, rfl, ⟨_, .inl (.inl hl)⟩, fun L nL => ?_⟩
    refine lc_map (walk_list (xs := us)) mono_T ms (Paired.length rl).symm (by rw [Paired.length rl]; omega) (fun m => hasP c m) (fun m => mvd c m) nL (fun H2 s2 => .inl (.inl (s2 _ _ hl))) ?_ ?_
    · rintro i ⟨f, s0, t⟩ x _ H2 KK K0 hb s2 ⟨rfl, hx⟩ k1 k0
      have r1 : IsM H2 x (f, s0, t) := mono_M _ _ _ _ (Same.t s2) (rl.get hx hb)
      obtain ⟨b1, b2, b3⟩ := hin _ (List.mem_of_getElem? hb)
      have hc2 := mono_T _ _ _ _ (Same.t s2) hc
      refine ⟨rfl, _, rfl, _, rfl, vc, x, c, f, s0, t, rfl, hc2, r1, b1, b2, _, rfl, ite2 (fun e => ?_) (fun e => ?_)⟩
      · exact ⟨_, rfl, _, rfl, vc, x, c, f, s0, t, rfl, hc2, r1, b1, b2, b3, e, fun v H3 s3 r3 => k1 e _ _ s3 r3⟩
      · exact k0 (Bool.eq_false_iff.mpr e) _ (Same.refl _)
    · intro H2 acc s2 hacc hr2
      exact q _ _ s2 ⟨L, acc, rfl, hacc, hr2⟩
/-! ### longer_rows -/
def IsR (H : Hp) (v : V) (p : Cfg × Nat) : Prop := ∃ a r, v = .ref a ∧ H a = some (.tup [r, .int (p.2 : Int)]) ∧ IsT H r p.1
theorem mono_R : Mono IsR := fun _ _ _ _ s ⟨a, r, e, h, t⟩ => ⟨a, r, e, s a _ h, mono_T _ _ _ _ s t⟩
theorem ivs_snoc (l : List Nat) (k : Nat) : ivs (l ++ [k]) = ivs l ++ [.int (k : Int)] := List.map_append ..
theorem longer_len {rows : List (Cfg × Nat)} {N : Nat} (h : ∀ p ∈ rows, p.2 < N) : (longer rows).length ≤ rows.length * N := by
  unfold longer
  refine flatMap_len (k := N) _ fun p hp => ?_
  unfold rowStep
  rw [List.length_map, List.length_range]
  exact h p hp
theorem rng_at {n i b : Nat} (h : (List.range n)[i]? = some b) : b = i ∧ i < n := by
  have hi : i < n := by
    have := (List.getElem?_eq_some_iff.mp h).1
    simpa using this
  rw [List.getElem?_range hi] at h
  exact ⟨(Option.some.inj h).symm, hi⟩
theorem fn_at {x : V} {k : Nat} (h : x = V.int (0 + (k : Nat))) : x = V.int (k : Int) := by rw [h, Int.zero_add]
theorem sub_at {r : V} {m k : Nat} (h : k ≤ m) : some (HO.tup [r, V.int ((m : Int) - (k : Int))]) = some (HO.tup [r, V.int ((m - k : Nat) : Int)]) := by rw [show (m : Int) - (k : Int) = ((m - k : Nat) : Int) by omega]
theorem sc_longer_rows : FnScope ["rows", "found", "row", "left", "own"] ["rows"] (defScope s_longer_rows) := ⟨rfl, rfl, rfl, by decide +kernel, rfl, by decide +kernel, by decide +kernel⟩
def sp_longer_rows : Sp := fun vs H Q _ => ∃ (vr : V) (rows : List (Cfg × Nat)), vs = [vr] ∧ IsLs IsR H vr rows ∧ rows.length ≤ 30000 ∧ (∀ p ∈ rows, p.1.length ≤ 10 ∧ p.2 < 30) ∧ ∀ v H', Same H H' → IsLs IsR H' v (longer rows) → Q v H'
theorem ok_longer_rows (D : DefAt K mg "longer_rows" s_longer_rows ["rows"]) (B : Bi mg) : Has P w K mg base CX0 1 "longer_rows" ["rows"] sp_longer_rows := by
  refine has_of D sc_longer_rows (fun vs H Q E h => ?_) (fun fa cdv A outer s H vs Q E hr h => ?_)
  · obtain ⟨_, _, rfl, _⟩ := h
    rfl
  · obtain ⟨_, rows, rfl, ⟨a, us, rfl, ha, ra⟩, hz, hok, q⟩ := h
    refine ⟨_, pss_cons (ps_set (i := 1) sc_longer_rows.nd rfl (.inl rfl) (pe_lst pa_nil))
      (pss_cons (ps_for PassesOwn.never rfl (pi_list (pv 0)) (pg_tup rfl (pgs_cons (pg_name (i := 2) sc_longer_rows.nd rfl (.inr rfl)) (pgs_cons (pg_name (i := 3) sc_longer_rows.nd rfl (.inr rfl)) pgs_nil)))
        (pss_one (ps_expr (pe_bm PySem.F.plainAttrs_list PySem.F.slot_list_extend PySem.F.type_list_extend mt_extend (pv 1) (pa_cons (pe_lc (own := [("own", 4)]) (g := gName 4) (tt := tYes) rfl sc_longer_rows.nd (pi_range1 rfl B.range (pa_cons (pe_op op_add (pv 3) pe_int) pa_nil))
            (blkOk_by (own := [("own", 4)]) (N := ["rows", "found", "row", "left", "own"]) (sc := defScope s_longer_rows) (by decide +kernel)) (fun _ _ _ _ _ => pg_name (i := 4) sc_longer_rows.nd rfl (.inl rfl))
            (fun _ _ _ _ _ => pts_nil) (fun _ _ _ _ _ => pe_tup (pa_cons (pe_op (r := rCatA K) op_catA (pv 2) (pe_tup (pa_cons (pv 4) pa_nil))) (pa_cons (pe_op op_sub (pv 3) (pv 4)) pa_nil)))) pa_nil)))))
      (pss_one (ps_ret (pv 1)))), ?_⟩
    refine ⟨Nat.zero_le _, fun l nl => ?_⟩
    refine ⟨_, rfl, a, rfl, ⟨_, .inl (.inl (same_new nl _ _ ha))⟩, ?_⟩
    have hul : us.length = rows.length := Paired.length ra
    refine for_it (walk_list (xs := us)) (fun i σ H' => ∃ x2 x3 vs, σ = [some (.ref a), some (.ref l), x2, x3, none] ∧ Same H H' ∧ H' l = some (.lst vs) ∧ AllR IsR H' vs (longer (rows.take i))) ⟨none, none, [], rfl, same_new nl, upd_same, .nil⟩ (fun i σ H' _ p => ?_) ?_ ?_
    · obtain ⟨_, _, _, _, s1, _⟩ := p
      exact .inl (.inl (s1 _ _ ha))
    · rintro i x σ H1 _ hi ⟨x2, x3, ws, rfl, s1, hl, hw⟩ ⟨rfl, hx⟩
      have hm : rows[i]? = some rows[i] := List.getElem?_eq_getElem (by omega)
      have hmem : rows[i] ∈ rows := List.getElem_mem _
      have rx : IsR H x rows[i] := ra.get hx hm
      have htk : longer (rows.take (i + 1)) = longer (rows.take i) ++ rowStep rows[i] := by
        unfold longer
        rw [List.take_add_one, hm, List.flatMap_append]
        simp
      have hpre : (longer (rows.take i)).length ≤ 900000 := by
        refine Nat.le_trans (longer_len (N := 30) fun p hp => (hok p (List.mem_of_mem_take hp)).2) ?_
        rw [List.length_take]
        omega
      generalize longer (rows.take i) = pre at hw htk hpre
      generalize rows[i] = p at rx htk hmem
      obtain ⟨row, left⟩ := p
      obtain ⟨h10, h30⟩ := hok _ hmem
      have h10 : row.length ≤ 10 := h10
      have h30 : left < 30 := h30
      obtain ⟨T, r, rfl, hT, hr⟩ := rx
      have hT1 := s1 _ _ hT
      obtain ⟨ar, rfl, har⟩ := mono_T _ _ _ _ (Same.t s1) hr
      refine ⟨T, _, rfl, .inl (.inl hT1), rfl, _, _, rfl, _, _, rfl, rfl, ?_⟩
      refine ⟨_, rfl, .inl ⟨rfl, _, .inl (.inl hl)⟩, _, rfl, _, _, rfl, rfl, (left : Int) + 1, rfl, by omega, by omega, fun L nL => ?_⟩
      rw [show ((left : Int) + 1).toNat = left + 1 from rfl]
      refine lc_map walk_range mono_R (List.range (left + 1)) (List.length_range ..) (by omega) (fun _ => true) (fun own => (row ++ [own], left - own)) nL (fun _ _ => trivial) ?_ ?_
      · rintro k b x _ H2 KK K0 hb s2 ⟨rfl, ex⟩ k1 _
        obtain ⟨rfl, hi⟩ := rng_at hb
        obtain rfl : x = .int (b : Int) := fn_at ex
        have har2 := s2 _ _ har
        refine ⟨rfl, yes_of (iteT ?_)⟩
        refine ⟨_, rfl, _, rfl, (by show 1 ≤ sizeLine; decide), fun p np => ?_⟩
        have s3 : Same H2 (upd H2 p (.tup [.int (b : Int)])) := same_new np
        refine ⟨ar, p, ivs row, [.int (b : Int)], rfl, rfl, .inl (.inl (s3 _ _ har2)), .inl (.inl upd_same), (by rw [ivs_len]; exact line_le (by show row.length + 1 ≤ _; omega)), fun e => ?_, fun _ e => ?_, fun _ _ p2 np2 => ?_⟩
        · refine ⟨_, rfl, _, rfl, _, _, rfl, rfl, (by show 2 ≤ sizeLine; decide), fun p3 np3 => ?_⟩
          refine k1 rfl _ _ (Same.upd s3 (none_of s3 np3)) ⟨p3, .ref p, rfl, ?_, p, rfl, ?_⟩
          · exact upd_same.trans (sub_at (by omega))
          · rw [upd_ne (fun z => by rw [← z, upd_same] at np3; cases np3), upd_same]
            show some (HO.tup [.int (b : Int)]) = some (HO.tup (ivs (row ++ [b])))
            rw [ivs_snoc, e]
            rfl
        · cases e
        · have s4 := Same.upd s3 (none_of s3 np2) (o := .tup (ivs row ++ [.int (b : Int)]))
          refine ⟨_, rfl, _, rfl, _, _, rfl, rfl, (by show 2 ≤ sizeLine; decide), fun p3 np3 => ?_⟩
          refine k1 rfl _ _ (Same.upd s4 (none_of s4 np3)) ⟨p3, .ref p2, rfl, ?_, p2, rfl, ?_⟩
          · exact upd_same.trans (sub_at (by omega))
          · rw [upd_ne (fun z => by rw [← z, upd_same] at np3; cases np3), upd_same]
            show _ = some (HO.tup (ivs (row ++ [b])))
            rw [ivs_snoc]
      · intro H4 acc s4 hacc hr4
        rw [all_keep] at hr4
        have hlL : l ≠ L := ne_of_none hl nL
        refine ⟨l, L, ws, acc, rfl, rfl, s4 _ _ hl, hacc, ?_, ?_⟩
        · rw [Paired.length hw, Paired.length hr4, List.length_map, List.length_range]
          exact line_le (by omega)
        · have hT : SameT H4 (upd H4 l (.lst (ws ++ acc))) := sameT_upd fun xs e => by rw [s4 _ _ hl] at e; cases e
          refine ⟨_, _, _, rfl, Same.upd (s1.trans s4) nl, upd_same, ?_⟩
          rw [htk]
          exact AllR.append (AllR.mono mono_R ((Same.t s4).trans hT) hw) (AllR.mono mono_R hT hr4)
    · rintro σ H1 ⟨x2, x3, ws, rfl, s1, hl, hw⟩
      rw [List.take_of_length_le (by omega)] at hw
      exact ⟨_, rfl, q _ _ s1 ⟨l, ws, rfl, hl, hw⟩⟩
/-! ### configurations -/
theorem rowsAt_len {many : Nat} (h : many < 30) : ∀ j : Nat, (rowsAt many j).length ≤ 30 ^ j
  | 0 => Nat.le_refl _
  | j + 1 => by
    have h1 := rowsAt_len h j
    have h2 := longer_len (N := 30) (rows := rowsAt many j) fun p hp => by
      have := (rowsAt_ok j p hp).2
      omega
    have e : (30 : Nat) ^ (j + 1) = 30 ^ j * 30 := Nat.pow_succ ..
    show (longer (rowsAt many j)).length ≤ _
    omega
theorem rowsAt_few {many j : Nat} (h : many < 30) (hj : j ≤ 3) : (rowsAt many j).length ≤ 30000 := by
  have h1 := rowsAt_len h j
  have h2 : (30 : Nat) ^ j ≤ 30 ^ 3 := Nat.pow_le_pow_right (by decide) hj
  have h3 : (30 : Nat) ^ 3 = 27000 := by decide
  omega
theorem sc_configurations : FnScope ["vertex_count", "many", "rows", "turn", "row", "left"] ["vertex_count", "many"] (defScope s_configurations) := ⟨rfl, rfl, rfl, by decide +kernel, rfl, by decide +kernel, by decide +kernel⟩
def sp_configurations : Sp := fun vs H Q _ => ∃ (n many : Nat), vs = [.int (n : Int), .int (many : Int)] ∧ 1 ≤ n ∧ n ≤ 5 ∧ many < 30 ∧ ∀ v H', Same H H' → IsLs IsT H' v (Ks578.configurations n many) → Q v H'
theorem ok_configurations (D : DefAt K mg "configurations" s_configurations ["vertex_count", "many"]) (B : Bi mg) (G1 : Has P w K mg base CX0 1 "longer_rows" ["rows"] sp_longer_rows) :
    Has P w K mg base CX0 2 "configurations" ["vertex_count", "many"] sp_configurations := by
  refine has_of D sc_configurations (fun vs H Q E h => ?_) (fun fa cdv A outer s H vs Q E hr h => ?_)
  · obtain ⟨_, _, rfl, _⟩ := h
    rfl
  · obtain ⟨n, many, rfl, hn1, hn5, hmany, q⟩ := h
    refine ⟨_, pss_cons (ps_set (i := 2) sc_configurations.nd rfl (.inl rfl) (pe_lst (pa_cons (pe_tup (pa_cons (pe_tup pa_nil) (pa_cons (pv 1) pa_nil))) pa_nil)))
      (pss_cons (ps_for PassesOwn.never rfl (pi_range1 rfl B.range (pa_cons (pe_op op_sub (pv 0) pe_int) pa_nil)) (pg_name (i := 3) sc_configurations.nd rfl (.inl rfl))
        (pss_one (ps_set (i := 2) sc_configurations.nd rfl (.inl rfl) (pe_f G1 hr (pa_cons (pv 2) pa_nil)))))
      (pss_one (ps_ret (pe_lc (own := [("row", 4), ("left", 5)]) (g := gTup K 2 (gCons (gName 4) (gCons (gName 5) gNil))) (tt := tYes) rfl sc_configurations.nd (pi_list (pv 2))
        (blkOk_by (own := [("row", 4), ("left", 5)]) (N := ["vertex_count", "many", "rows", "turn", "row", "left"]) (sc := defScope s_configurations) (by decide +kernel))
        (fun _ _ _ _ _ => pg_tup rfl (pgs_cons (pg_name (i := 4) sc_configurations.nd rfl (.inl rfl)) (pgs_cons (pg_name (i := 5) sc_configurations.nd rfl (.inl rfl)) pgs_nil))) (fun _ _ _ _ _ => pts_nil)
        (fun _ _ _ _ _ => pe_op (r := rCatA K) op_catA (pv 4) (pe_tup (pa_cons (pv 5) pa_nil))))))), ?_⟩
    refine ⟨Nat.zero_le _, fun p0 np0 => ⟨_, rfl, (by show 2 ≤ sizeLine; decide), fun p1 np1 => ⟨(by show 1 ≤ sizeLine; decide), fun l nl => ?_⟩⟩⟩
    have s1 : Same H (upd H p0 (.tup [])) := same_new np0
    have s2 : Same (upd H p0 (.tup [])) (upd (upd H p0 (.tup [])) p1 (.tup [.ref p0, .int (many : Int)])) := same_new np1
    have hl0 := upd_same (H := upd (upd H p0 (.tup [])) p1 (.tup [.ref p0, .int (many : Int)])) (a := l) (o := .lst [.ref p1])
    have s3 : Same (upd (upd H p0 (.tup [])) p1 (.tup [.ref p0, .int (many : Int)])) (upd (upd (upd H p0 (.tup [])) p1 (.tup [.ref p0, .int (many : Int)])) l (.lst [.ref p1])) := same_new nl
    have st : IsLs IsR (upd (upd (upd H p0 (.tup [])) p1 (.tup [.ref p0, .int (many : Int)])) l (.lst [.ref p1])) (.ref l) (rowsAt many 0) :=
      ⟨l, _, rfl, hl0, .cons ⟨p1, .ref p0, rfl, s3 _ _ upd_same, p0, rfl, s3 _ _ (s2 _ _ upd_same)⟩ .nil⟩
    have s0 := (s1.trans s2).trans s3
    generalize upd (upd (upd H p0 (.tup [])) p1 (.tup [.ref p0, .int (many : Int)])) l (.lst [.ref p1]) = H0 at st s0
    refine ⟨_, rfl, _, _, rfl, rfl, (n : Int) - 1, rfl, by omega, by omega, ?_⟩
    rw [show ((n : Int) - 1).toNat = n - 1 by omega]
    refine for_it walk_range (fun i σ H' => ∃ v x3, σ = [some (.int (n : Int)), some (.int (many : Int)), some v, x3, none, none] ∧ Same H H' ∧ IsLs IsR H' v (rowsAt many i)) ⟨.ref l, none, rfl, s0, st⟩ (fun _ _ _ _ _ => trivial) ?_ ?_
    · rintro i x σ H1 _ hi ⟨v, x3, rfl, s4, hv⟩ ⟨rfl, ex⟩
      refine ⟨_, rfl, v, rowsAt many i, rfl, hv, rowsAt_few hmany (by omega), fun p hp => ?_, fun v' H2 s5 hv' => ⟨v', _, rfl, s4.trans s5, hv'⟩⟩
      have := rowsAt_ok i p hp
      omega
    · rintro σ H1 ⟨v, x3, rfl, s4, ⟨a, us, rfl, ha, ra⟩⟩
      have hz : (rowsAt many (n - 1)).length ≤ 1000000 := by
        have h1 := rowsAt_len hmany (n - 1)
        have h2 : (30 : Nat) ^ (n - 1) ≤ 30 ^ 4 := Nat.pow_le_pow_right (by decide) (by omega)
        have h3 : (30 : Nat) ^ 4 = 810000 := by decide
        omega
      refine ⟨_, rfl, a, rfl, ⟨_, .inl (.inl ha)⟩, fun L nL => ?_⟩
      refine lc_map (walk_list (xs := us)) mono_T (rowsAt many (n - 1)) (Paired.length ra).symm (by rw [Paired.length ra]; omega) (fun _ => true) (fun p => p.1 ++ [p.2]) nL (fun H2 s5 => .inl (.inl (s5 _ _ ha))) ?_ ?_
      · rintro k p x _ H2 KK K0 hb s5 ⟨rfl, hx⟩ k1 _
        have hp := rowsAt_ok (n - 1) p (List.mem_of_getElem? hb)
        obtain ⟨T, r, rfl, hT, hr⟩ := mono_R _ _ _ _ (Same.t s5) (ra.get hx hb)
        obtain ⟨row, left⟩ := p
        have hp1 : row.length = n - 1 := hp.1
        obtain ⟨ar, rfl, har⟩ := hr
        refine ⟨T, _, rfl, .inl (.inl hT), rfl, _, _, rfl, _, _, rfl, rfl, rfl, yes_of (iteT ?_)⟩
        refine ⟨_, rfl, _, rfl, (by show 1 ≤ sizeLine; decide), fun p np => ?_⟩
        have s6 : Same H2 (upd H2 p (.tup [.int (left : Int)])) := same_new np
        refine ⟨ar, p, ivs row, [.int (left : Int)], rfl, rfl, .inl (.inl (s6 _ _ har)), .inl (.inl upd_same), (by rw [ivs_len]; exact line_le (by show row.length + 1 ≤ _; omega)), fun e => ?_, fun _ e => ?_, fun _ _ p2 np2 => ?_⟩
        · refine k1 rfl _ _ s6 ⟨p, rfl, ?_⟩
          rw [upd_same]
          show _ = some (HO.tup (ivs (row ++ [left])))
          rw [ivs_snoc, e]
          rfl
        · cases e
        · refine k1 rfl _ _ (Same.upd s6 (none_of s6 np2)) ⟨p2, rfl, ?_⟩
          rw [upd_same]
          show _ = some (HO.tup (ivs (row ++ [left])))
          rw [ivs_snoc]
      · intro H2 acc s5 hacc hr2
        rw [all_keep] at hr2
        refine q _ _ (s4.trans s5) ⟨L, acc, rfl, hacc, ?_⟩
        rw [← cfgs_is hn1]
        exact hr2
/-! ### reach_of -/
def IsBs (H : Hp) (v : V) (bs : List Bool) : Prop := ∃ a, v = .ref a ∧ H a = some (.lst (bs.map V.bl))
theorem IsBs.same {H H' : Hp} {v : V} {bs : List Bool} (h : IsBs H v bs) (s : Same H H') : IsBs H' v bs := by
  obtain ⟨a, e, h⟩ := h
  exact ⟨a, e, s _ _ h⟩
/-- a dict from these configurations to what r tells of each -/
def IsDB (H : Hp) (v : V) (acc : List Cfg) (r : Cfg → List Bool) : Prop := ∃ d val, v = .ref d ∧ H d = some (.dT (kdv acc val)) ∧ ∀ c ∈ acc, IsBs H (val c) (r c)
theorem IsDB.same {H H' : Hp} {v : V} {acc : List Cfg} {r : Cfg → List Bool} (h : IsDB H v acc r) (s : Same H H') : IsDB H' v acc r := by
  obtain ⟨d, val, e, h, k⟩ := h
  exact ⟨d, val, e, s _ _ h, fun c hc => (k c hc).same s⟩
theorem orEach_zip : ∀ a b : List Bool, orEach a b = (a.zip b).map fun x => x.1 || x.2
  | [], b => by cases b <;> rfl
  | _ :: _, [] => rfl
  | x :: a, y :: b => congrArg (List.cons _) (orEach_zip a b)
theorem orEach_len {a b : List Bool} (h : b.length = a.length) : (orEach a b).length = a.length := by
  unfold orEach
  rw [List.length_zipWith, h]
  omega
theorem sc_reach_of : FnScope ["configuration", "moves", "before", "found", "later", "own", "one", "other"] ["configuration", "moves", "before"] (defScope s_reach_of) := ⟨rfl, rfl, rfl, by decide +kernel, rfl, by decide +kernel, by decide +kernel⟩
def sp_reach_of : Sp := fun vs H Q _ => ∃ (vc vm vb : V) (c : Cfg) (ms : List Mv) (acc : List Cfg) (r : Cfg → List Bool), vs = [vc, vm, vb] ∧ IsT H vc c ∧ c.length ≤ 1000 ∧ IsLs IsM H vm ms ∧ ms.length ≤ 1000 ∧ MovesIn c.length ms ∧ IsDB H vb acc r ∧
  (∀ d ∈ allBehind c ms, d ∈ acc ∧ (r d).length = c.length) ∧ ∀ v H', Same H H' → IsBs H' v (reachOf c ms r) → Q v H'
theorem ok_reach_of (D : DefAt K mg "reach_of" s_reach_of ["configuration", "moves", "before"]) (B : Bi mg) (G1 : Has P w K mg base CX0 2 "all_behind" ["configuration", "moves"] sp_all_behind) :
    Has P w K mg base CX0 3 "reach_of" ["configuration", "moves", "before"] sp_reach_of := by
  refine has_of D sc_reach_of (fun vs H Q E h => ?_) (fun fa cdv A outer s H vs Q E hr h => ?_)
  · obtain ⟨_, _, _, _, _, _, _, rfl, _⟩ := h
    rfl
  · obtain ⟨_, vm, _, c, ms, acc, r, rfl, ⟨a, rfl, ha⟩, hcz, hm, hz, hin, ⟨d, val, rfl, hd, hval⟩, hbeh, q⟩ := h
    refine ⟨_, pss_cons (ps_setLc (i := 3) (own := [("own", 5)]) (g := gName 5) (tt := tYes) rfl sc_reach_of.nd rfl rfl rfl (pi_tup (pv 0))
        (blkOk_by (own := [("own", 5)]) (N := ["configuration", "moves", "before", "found", "later", "own", "one", "other"]) (sc := defScope s_reach_of) (by decide +kernel)) (fun _ _ _ _ _ => pg_name (i := 5) sc_reach_of.nd rfl (.inl rfl))
        (fun _ _ _ _ _ => pts_nil) (fun _ _ _ _ _ => pe_cmpR op_gt (pv 5) pe_int (nomark _)))
      (pss_cons (ps_for PassesOwn.never rfl (pi_list (pe_f G1 hr (pa_cons (pv 0) (pa_cons (pv 1) pa_nil)))) (pg_name (i := 4) sc_reach_of.nd rfl (.inl rfl))
        (pss_one (ps_setLc (i := 3) (own := [("one", 6), ("other", 7)]) (g := gTup K 2 (gCons (gName 6) (gCons (gName 7) gNil))) (tt := tYes) rfl sc_reach_of.nd rfl rfl rfl
          (pi_zip rfl B.zip (pa_cons (pv 3) (pa_cons (pe_dget (hu_of hr) (pv 2) (pv 4) (fun _ _ => rfl)) pa_nil)))
          (blkOk_by (own := [("one", 6), ("other", 7)]) (N := ["configuration", "moves", "before", "found", "later", "own", "one", "other"]) (sc := defScope s_reach_of) (by decide +kernel))
          (fun _ _ _ _ _ => pg_tup rfl (pgs_cons (pg_name (i := 6) sc_reach_of.nd rfl (.inl rfl)) (pgs_cons (pg_name (i := 7) sc_reach_of.nd rfl (.inl rfl)) pgs_nil))) (fun _ _ _ _ _ => pts_nil)
          (fun _ _ _ _ _ => pe_or (pv 6) (pe_one (pv 7))))))
      (pss_one (ps_ret (pv 3)))), ?_⟩
    refine ⟨_, rfl, a, rfl, ⟨_, .inl (.inl ha)⟩, fun L nL => ?_⟩
    refine lc_map (walk_tup (xs := ivs c)) mono_B c (ivs_len c).symm (by rw [ivs_len]; omega) (fun _ => true) (fun own => decide (0 < own)) nL (fun H2 s2 => .inl (.inl (s2 _ _ ha))) ?_ ?_
    · rintro k b x _ H2 KK K0 hb s2 ⟨rfl, hx⟩ k1 _
      have hxb : x = .int (b : Int) := by
        unfold ivs at hx
        rw [List.getElem?_map, hb] at hx
        exact (Option.some.inj hx).symm
      subst hxb
      refine ⟨rfl, yes_of (iteT ?_)⟩
      exact ⟨_, rfl, _, _, rfl, rfl, k1 rfl _ _ (Same.refl _) (congrArg V.bl (dec_eq (by omega)))⟩
    · intro H1 acc1 s1 hacc1 hr1
      rw [all_keep] at hr1
      rw [AllR.bools hr1] at hacc1
      have h0 : IsBs H1 (.ref L) (reach0 c) := ⟨L, rfl, hacc1⟩
      refine ⟨_, rfl, _, rfl, .ref a, vm, c, ms, rfl, ⟨a, rfl, s1 _ _ ha⟩, IsLs.same mono_M s1 hm, hz, hin, fun v H2 s2 ⟨b, us, eb, hb, rb⟩ => ?_⟩
      subst eb
      have hul : us.length = (allBehind c ms).length := Paired.length rb
      refine ⟨b, rfl, ⟨_, .inl (.inl hb)⟩, ?_⟩
      refine for_it (walk_list (xs := us)) (fun i σ H' => ∃ v x4 fb, σ = [some (.ref a), some vm, some (.ref d), some v, x4, none, none, none] ∧ Same H H' ∧ Same H2 H' ∧ IsBs H' v fb ∧ fb.length = c.length ∧ fb = ((allBehind c ms).take i).foldl (fun found later => orEach found (r later)) (reach0 c))
        ⟨.ref L, none, reach0 c, rfl, s1.trans s2, Same.refl _, h0.same s2, (by unfold reach0; exact List.length_map ..), rfl⟩ (fun i σ H' _ p => ?_) ?_ ?_
      · obtain ⟨_, _, _, _, _, s3, _⟩ := p
        exact .inl (.inl (s3 _ _ hb))
      · rintro i x σ _ H3 hi ⟨v, x4, fb, rfl, s3, s4, ⟨bv, rfl, hbv⟩, hfl, hfb⟩ ⟨rfl, hx⟩
        have hmi : (allBehind c ms)[i]? = some (allBehind c ms)[i] := List.getElem?_eq_getElem (by omega)
        have rx : IsT H3 x (allBehind c ms)[i] := mono_T _ _ _ _ (Same.t s4) (rb.get hx hmi)
        have hmem : (allBehind c ms)[i] ∈ allBehind c ms := List.getElem_mem _
        have htk : ((allBehind c ms).take (i + 1)).foldl (fun found later => orEach found (r later)) (reach0 c) = orEach fb (r (allBehind c ms)[i]) := by
          rw [List.take_add_one, hmi, List.foldl_append, ← hfb]
          rfl
        generalize (allBehind c ms)[i] = e at rx hmem htk
        obtain ⟨he, hel⟩ := hbeh e hmem
        obtain ⟨ke, rfl, hke⟩ := rx.key
        obtain ⟨av, hav, hlv⟩ := hval e he
        have hgv : valV (kdv acc val) (kof e) = some (.ref av) := by rw [valV_kdv, if_pos he, hav]
        refine ⟨_, rfl, _, rfl, _, rfl, d, .ref av, rfl, ?_, ?_⟩
        · rw [← hgv]
          exact DGet.t (s3 _ _ hd) hke
        refine ⟨bv, av, _, _, rfl, .inl (.inl hbv), .inl (.inl (s3 _ _ hlv)), fun L2 nL2 => ?_⟩
        refine lc_map (walk_zip (xs := fb.map V.bl) (ys := (r e).map V.bl) rfl) mono_B (fb.zip (r e)) (by rw [List.length_zip, List.length_map, List.length_map]) (by rw [List.length_map]; omega) (fun _ => true) (fun x => x.1 || x.2) nL2
          (fun H5 s5 => ⟨.inl (.inl (s5 _ _ hbv)), .inl (.inl (s5 _ _ (s3 _ _ hlv)))⟩) ?_ ?_
        · rintro k z x H5 H6 KK K0 hzb s5 ⟨T, y1, y2, rfl, nT, rfl, f1, f2⟩ k1 _
          obtain ⟨b1, b2⟩ := z
          have hz' : fb[k]? = some b1 ∧ (r e)[k]? = some b2 := by
            rw [List.getElem?_zip_eq_some] at hzb
            exact hzb
          obtain ⟨g1, g2⟩ := hz'
          have e1 : y1 = .bl b1 := by
            have f1 : (fb.map V.bl)[k]? = some y1 := f1
            rw [List.getElem?_map, g1] at f1
            exact (Option.some.inj f1).symm
          have e2 : y2 = .bl b2 := by
            have f2 : ((r e).map V.bl)[k]? = some y2 := f2
            rw [List.getElem?_map, g2] at f2
            exact (Option.some.inj f2).symm
          subst e1 e2
          refine ⟨T, _, rfl, .inl (.inl upd_same), rfl, _, _, rfl, _, _, rfl, rfl, rfl, yes_of (iteT ?_)⟩
          refine ⟨_, rfl, b1, rfl, ?_⟩
          cases b1 with
          | true => exact iteT (k1 rfl _ _ (same_new nT) rfl)
          | false => exact iteF ⟨_, rfl, k1 rfl _ _ (same_new nT) rfl⟩
        · intro H5 acc5 s5 hacc5 hr5
          rw [all_keep] at hr5
          rw [AllR.bools hr5, ← orEach_zip] at hacc5
          exact ⟨.ref L2, _, orEach fb (r e), rfl, s3.trans s5, s4.trans s5, ⟨L2, rfl, hacc5⟩, (orEach_len (hel.trans hfl.symm)).trans hfl, htk.symm⟩
      · rintro σ H3 ⟨v, x4, fb, rfl, s3, s4, hv, hfl, hfb⟩
        rw [List.take_of_length_le (by omega)] at hfb
        refine ⟨_, rfl, q _ _ s3 ?_⟩
        unfold reachOf
        rw [← hfb]
        exact hv
/-! ### all_reaches -/
theorem notin_take {α : Type} {l : List α} (h : l.Nodup) {i : Nat} (hi : i < l.length) : l[i] ∉ l.take i := fun hm => by
  have e : l = l.take i ++ l[i] :: l.drop (i + 1) := by
    rw [← List.drop_eq_getElem_cons hi, List.take_append_drop]
  rw [e, List.nodup_append] at h
  exact h.2.2 _ hm _ (List.mem_cons_self ..) rfl
def valAt (val : Cfg → V) (c : Cfg) (v : V) : Cfg → V := fun x => if x = c then v else val x
theorem kdv_snoc {acc : List Cfg} {val : Cfg → V} {c : Cfg} {v : V} (h : c ∉ acc) : putK (kdv acc val) (kof c) v = kdv (acc ++ [c]) (valAt val c v) := by
  rw [putK_new' h]
  unfold kdv
  rw [List.map_append]
  congr 1
  · refine List.map_congr_left fun x hx => ?_
    have : x ≠ c := fun z => h (z ▸ hx)
    unfold valAt
    rw [if_neg this]
  · show _ = [(kof c, valAt val c v c)]
    unfold valAt
    rw [if_pos rfl]
theorem kdv_len (acc : List Cfg) (val : Cfg → V) : (kdv acc val).length = acc.length := List.length_map ..
theorem sc_all_reaches : FnScope ["rows", "moves", "before", "found", "configuration"] ["rows", "moves", "before"] (defScope s_all_reaches) := ⟨rfl, rfl, rfl, by decide +kernel, rfl, by decide +kernel, by decide +kernel⟩
def sp_all_reaches : Sp := fun vs H Q _ => ∃ (vr vm vb : V) (rows : List Cfg) (n : Nat) (ms : List Mv) (acc : List Cfg) (r : Cfg → List Bool), vs = [vr, vm, vb] ∧ IsLs IsT H vr rows ∧ rows.Nodup ∧ rows.length ≤ 100000 ∧ n ≤ 1000 ∧ IsLs IsM H vm ms ∧ ms.length ≤ 1000 ∧ MovesIn n ms ∧ IsDB H vb acc r ∧
  (∀ c ∈ rows, c.length = n ∧ ∀ d ∈ allBehind c ms, d ∈ acc ∧ (r d).length = c.length) ∧ ∀ v H', Same H H' → IsDB H' v rows (fun c => reachOf c ms r) → Q v H'
theorem ok_all_reaches (D : DefAt K mg "all_reaches" s_all_reaches ["rows", "moves", "before"]) (G1 : Has P w K mg base CX0 3 "reach_of" ["configuration", "moves", "before"] sp_reach_of) :
    Has P w K mg base CX0 4 "all_reaches" ["rows", "moves", "before"] sp_all_reaches := by
  refine has_of D sc_all_reaches (fun vs H Q E h => ?_) (fun fa cdv A outer s H vs Q E hr h => ?_)
  · obtain ⟨_, _, _, _, _, _, _, _, rfl, _⟩ := h
    rfl
  · obtain ⟨_, vm, vb, rows, n, ms, acc, r, rfl, ⟨l, us, rfl, hl, rl⟩, hnd, hrz, hn, hm, hz, hin, hb, hok, q⟩ := h
    refine ⟨_, pss_cons (ps_set (i := 3) sc_all_reaches.nd rfl (.inl rfl) pe_dnewT)
      (pss_cons (ps_for PassesOwn.never rfl (pi_list (pv 0)) (pg_name (i := 4) sc_all_reaches.nd rfl (.inl rfl))
        (pss_one (ps_dput (hu_of hr) (pv 3) (pv 4) (pe_f G1 hr (pa_cons (pv 4) (pa_cons (pv 1) (pa_cons (pv 2) pa_nil)))) rfl)))
      (pss_one (ps_ret (pv 3)))), ?_⟩
    refine fun d nd => ?_
    have hul : us.length = rows.length := Paired.length rl
    refine ⟨_, rfl, l, rfl, ⟨_, .inl (.inl (same_new nd _ _ hl))⟩, ?_⟩
    refine for_it (walk_list (xs := us)) (fun i σ H' => ∃ x4 val, σ = [some (.ref l), some vm, some vb, some (.ref d), x4] ∧ Same H H' ∧ H' d = some (.dT (kdv (rows.take i) val)) ∧ ∀ c ∈ rows.take i, IsBs H' (val c) (reachOf c ms r))
      ⟨none, fun _ => .non, rfl, same_new nd, upd_same, fun c hc => by rw [List.take_zero] at hc; cases hc⟩ (fun i σ H' _ p => ?_) ?_ ?_
    · obtain ⟨_, _, _, s1, _⟩ := p
      exact .inl (.inl (s1 _ _ hl))
    · rintro i x σ _ H1 hi ⟨x4, val, rfl, s1, hd, hval⟩ ⟨rfl, hx⟩
      have hir : i < rows.length := by omega
      have hmi : rows[i]? = some rows[i] := List.getElem?_eq_getElem hir
      have rx : IsT H1 x rows[i] := mono_T _ _ _ _ (Same.t s1) (rl.get hx hmi)
      have hmem : rows[i] ∈ rows := List.getElem_mem _
      have hni := notin_take hnd hir
      have htk : rows.take (i + 1) = rows.take i ++ [rows[i]] := by rw [List.take_add_one, hmi]; rfl
      have hlt : (rows.take i).length ≤ 100000 := by rw [List.length_take]; omega
      generalize rows.take i = pre at hd hval hni htk hlt
      generalize rows[i] = c at rx hmem hni htk
      obtain ⟨hcl, hcb⟩ := hok c hmem
      obtain ⟨kc, rfl, hkc⟩ := rx.key
      refine ⟨_, rfl, _, rfl, _, rfl, .ref kc, vm, vb, c, ms, acc, r, rfl, rx, by omega, IsLs.same mono_M s1 hm, hz, by rw [hcl]; exact hin, hb.same s1, hcb, fun v H2 s2 hv => ?_⟩
      refine ⟨_, rfl, _, rfl, d, _, rfl, DPut.t (s2 _ _ hd) (s2 _ _ hkc) (line_lt (by rw [kdv_len]; omega)), ?_⟩
      rw [kdv_snoc hni, htk]
      refine ⟨_, valAt val c v, rfl, Same.upd (s1.trans s2) nd, upd_same, fun e he => ?_⟩
      have hback : ∀ (y : V) (bs : List Bool), IsBs H2 y bs → IsBs (upd H2 d (.dT (kdv (pre ++ [c]) (valAt val c v)))) y bs := fun y bs ⟨ay, ey, hy⟩ => ⟨ay, ey, by
        rw [upd_ne (fun z => by rw [z, s2 _ _ hd] at hy; cases hy)]
        exact hy⟩
      unfold valAt
      by_cases hec : e = c
      · rw [if_pos hec, hec]
        exact hback _ _ hv
      · rw [if_neg hec]
        refine hback _ _ ((hval e ?_).same s2)
        rcases List.mem_append.mp he with he | he
        · exact he
        · exact absurd (List.mem_singleton.mp he) hec
    · rintro σ H1 ⟨x4, val, rfl, s1, hd, hval⟩
      rw [List.take_of_length_le (by omega)] at hd hval
      exact ⟨_, rfl, q _ _ s1 ⟨d, val, rfl, hd, hval⟩⟩
/-! ### first_complete -/
def vOpt (H : Hp) (v : V) : Option Cfg → Prop
  | none => v = .non
  | some c => IsT H v c
theorem sc_first_complete : FnScope ["rows", "reaches", "configuration"] ["rows", "reaches"] (defScope s_first_complete) := ⟨rfl, rfl, rfl, by decide +kernel, rfl, by decide +kernel, by decide +kernel⟩
def sp_first_complete : Sp := fun vs H Q _ => ∃ (vr vb : V) (rows : List Cfg) (acc : List Cfg) (r : Cfg → List Bool), vs = [vr, vb] ∧ IsLs IsT H vr rows ∧ IsDB H vb acc r ∧ (∀ c ∈ rows, c ∈ acc) ∧ ∀ v H', Same H H' → vOpt H' v (rows.find? fun c => complete (r c)) → Q v H'
theorem ok_first_complete (D : DefAt K mg "first_complete" s_first_complete ["rows", "reaches"]) (B : Bi mg) : Has P w K mg base CX0 1 "first_complete" ["rows", "reaches"] sp_first_complete := by
  refine has_of D sc_first_complete (fun vs H Q E h => ?_) (fun fa cdv A outer s H vs Q E hr h => ?_)
  · obtain ⟨_, _, _, _, _, rfl, _⟩ := h
    rfl
  · obtain ⟨_, _, rows, acc, r, rfl, ⟨l, us, rfl, hl, rl⟩, ⟨d, val, rfl, hd, hval⟩, hok, q⟩ := h
    refine ⟨_, pss_cons (ps_for PassesOwn.never rfl (pi_list (pv 0)) (pg_name (i := 2) sc_first_complete.nd rfl (.inl rfl))
        (pss_one (ps_if (pt_val (pe_callB (cr_all rfl) rfl B.all boot_all (pa_cons (pe_dget (hu_of hr) (pv 1) (pv 2) (fun _ _ => rfl)) pa_nil))) (pss_one (ps_ret (pv 2))) pss_nil)))
      (pss_one (ps_ret pe_non)), ?_⟩
    have hul : us.length = rows.length := Paired.length rl
    refine ⟨_, rfl, l, rfl, ⟨_, .inl (.inl hl)⟩, ?_⟩
    refine for_it (walk_list (xs := us)) (fun i σ H' => ∃ x2, σ = [some (.ref l), some (.ref d), x2] ∧ Same H H' ∧ (rows.find? fun c => complete (r c)) = (rows.drop i).find? fun c => complete (r c)) ⟨none, rfl, Same.refl H, by rw [List.drop_zero]⟩ (fun i σ H' _ p => ?_) ?_ ?_
    · obtain ⟨_, _, s1, _⟩ := p
      exact .inl (.inl (s1 _ _ hl))
    · rintro i x σ _ H1 hi ⟨x2, rfl, s1, hf⟩ ⟨rfl, hx⟩
      have hir : i < rows.length := by omega
      have hmi : rows[i]? = some rows[i] := List.getElem?_eq_getElem hir
      have rx : IsT H1 x rows[i] := mono_T _ _ _ _ (Same.t s1) (rl.get hx hmi)
      have hmem : rows[i] ∈ rows := List.getElem_mem _
      rw [List.drop_eq_getElem_cons hir, List.find?_cons] at hf
      generalize rows[i] = c at rx hmem hf
      have hc := hok c hmem
      obtain ⟨kc, rfl, hkc⟩ := rx.key
      obtain ⟨av, hav, hlv⟩ := hval c hc
      have hgv : valV (kdv acc val) (kof c) = some (.ref av) := by rw [valV_kdv, if_pos hc, hav]
      refine ⟨_, rfl, _, rfl, d, .ref av, rfl, ?_, av, r c, rfl, .inl (.inl (s1 _ _ hlv)), _, rfl, ?_⟩
      · rw [← hgv]
        exact DGet.t (s1 _ _ hd) hkc
      show if complete (r c) = true then _ else _
      cases hcc : complete (r c) with
      | true =>
        rw [hcc] at hf
        refine iteT ⟨_, rfl, q _ _ s1 ?_⟩
        rw [hf]
        exact rx
      | false =>
        rw [hcc] at hf
        exact iteF ⟨_, rfl, s1, hf⟩
    · rintro σ H1 ⟨x2, rfl, s1, hf⟩
      rw [List.drop_of_length_le (by omega)] at hf
      refine q _ _ s1 ?_
      rw [hf]
      rfl
/-! ### optimal -/
theorem opt_drop {n i : Nat} (h : i < n) : ((List.range n).map fun k => k + 1).drop i = (i + 1) :: ((List.range n).map fun k => k + 1).drop (i + 1) := by
  rw [List.drop_eq_getElem_cons (by rw [List.length_map, List.length_range]; exact h)]
  congr 1
  simp
theorem opt_end {n : Nat} : ((List.range n).map fun k => k + 1).drop n = [] := List.drop_of_length_le (by rw [List.length_map, List.length_range]; exact Nat.le_refl _)
theorem conf_few {n k : Nat} (hn : n ≤ 5) (hk : k ≤ 12) : (Ks578.configurations n k).length ≤ 10000 := few_cfgs hn (conf_nodup n k) fun c hc => by
  obtain ⟨h1, h2⟩ := mem_configurations.mp hc
  exact ⟨h1, by omega⟩
theorem conf_behind {n k : Nat} {ms : List Mv} (hm : MovesIn n ms) (c : Cfg) (hc : c ∈ Ks578.configurations n (k + 1)) : c.length = n ∧ ∀ d ∈ allBehind c ms, d ∈ Ks578.configurations n k ∧ (reachAt ms k d).length = c.length := by
  obtain ⟨h1, h2⟩ := mem_configurations.mp hc
  refine ⟨h1, fun d hd => ?_⟩
  have h3 := behind_sum hm h1 hd
  have h4 := behind_len hd
  exact ⟨mem_configurations.mpr ⟨h4.trans h1, by omega⟩, (reach_len k d).trans h4⟩
theorem sc_optimal : FnScope ["vertex_count", "moves", "reaches", "many", "rows", "found"] ["vertex_count", "moves"] (defScope s_optimal) := ⟨rfl, rfl, rfl, by decide +kernel, rfl, by decide +kernel, by decide +kernel⟩
def sp_optimal : Sp := fun vs H Q _ => ∃ (vm : V) (n : Nat) (ms : List Mv), vs = [.int (n : Int), vm] ∧ 1 ≤ n ∧ n ≤ 5 ∧ IsLs IsM H vm ms ∧ ms.length ≤ 1000 ∧ MovesIn n ms ∧ ∀ v c H', Same H H' → optL n ms = some c → IsT H' v c → Q v H'
theorem ok_optimal (D : DefAt K mg "optimal" s_optimal ["vertex_count", "moves"]) (B : Bi mg) (G1 : Has P w K mg base CX0 2 "configurations" ["vertex_count", "many"] sp_configurations)
    (G2 : Has P w K mg base CX0 4 "all_reaches" ["rows", "moves", "before"] sp_all_reaches) (G3 : Has P w K mg base CX0 1 "first_complete" ["rows", "reaches"] sp_first_complete) :
    Has P w K mg base CX0 5 "optimal" ["vertex_count", "moves"] sp_optimal := by
  refine has_of D sc_optimal (fun vs H Q E h => ?_) (fun fa cdv A outer s H vs Q E hr h => ?_)
  · obtain ⟨_, _, _, rfl, _⟩ := h
    rfl
  · obtain ⟨vm, n, ms, rfl, hn1, hn5, hm, hz, hin, q⟩ := h
    refine ⟨_, pss_cons (ps_set (i := 2) sc_optimal.nd rfl (.inl rfl) (pe_f G2 hr (pa_cons (pe_f G1 (hr.mono (by decide)) (pa_cons (pv 0) (pa_cons pe_int pa_nil))) (pa_cons (pe_lst pa_nil) (pa_cons pe_dnewT pa_nil)))))
      (pss_cons (ps_for PassesOwn.never rfl (pi_range2 rfl B.range (pa_cons pe_int (pa_cons (pv 0) pa_nil))) (pg_name (i := 3) sc_optimal.nd rfl (.inl rfl))
        (pss_cons (ps_set (i := 4) sc_optimal.nd rfl (.inl rfl) (pe_f G1 (hr.mono (by decide)) (pa_cons (pv 0) (pa_cons (pv 3) pa_nil))))
        (pss_cons (ps_set (i := 2) sc_optimal.nd rfl (.inl rfl) (pe_f G2 hr (pa_cons (pv 4) (pa_cons (pv 1) (pa_cons (pv 2) pa_nil)))))
        (pss_cons (ps_set (i := 5) sc_optimal.nd rfl (.inl rfl) (pe_f G3 (hr.mono (by decide)) (pa_cons (pv 4) (pa_cons (pv 2) pa_nil))))
        (pss_one (ps_if (pt_cmpR op_notN (pv 5) pe_non (nomark _)) (pss_one (ps_ret (pv 5))) pss_nil))))))
      (pss_cons (ps_set (i := 4) sc_optimal.nd rfl (.inl rfl) (pe_f G1 (hr.mono (by decide)) (pa_cons (pv 0) (pa_cons (pv 0) pa_nil))))
      (pss_one (ps_ret (pe_f G3 (hr.mono (by decide)) (pa_cons (pv 4) (pa_cons (pe_f G2 hr (pa_cons (pv 4) (pa_cons (pv 1) (pa_cons (pv 2) pa_nil)))) pa_nil))))))), ?_⟩
    refine ⟨_, rfl, n, 0, rfl, hn1, hn5, by decide, fun v0 H0 s0 hv0 => ⟨Nat.zero_le _, fun l nl => fun d nd => ?_⟩⟩
    have s1 : Same H0 (upd H0 l (.lst [])) := same_new nl
    have s2 : Same (upd H0 l (.lst [])) (upd (upd H0 l (.lst [])) d (.dT [])) := same_new nd
    have hl : IsLs IsM (upd (upd H0 l (.lst [])) d (.dT [])) (.ref l) [] := ⟨l, [], rfl, s2 _ _ upd_same, .nil⟩
    have hd : IsDB (upd (upd H0 l (.lst [])) d (.dT [])) (.ref d) [] (fun _ => []) := ⟨d, fun _ => .non, rfl, upd_same, fun c hc => by cases hc⟩
    have hv1 := IsLs.same mono_T (s1.trans s2) hv0
    have s3 := s0.trans (s1.trans s2)
    generalize upd (upd H0 l (.lst [])) d (.dT []) = H1 at hl hd hv1 s3
    refine ⟨v0, .ref l, .ref d, _, n, [], [], _, rfl, hv1, conf_nodup n 0, Nat.le_trans (conf_few hn5 (by decide)) (by decide), by omega, hl, Nat.zero_le _, (fun m hm => by cases hm), hd, fun c hc => ⟨(mem_configurations.mp hc).1, fun e he => by cases he⟩, fun v2 H2 s4 hv2 => ?_⟩
    have hv2 : IsDB H2 v2 (Ks578.configurations n 0) (reachAt ms 0) := hv2
    refine ⟨_, rfl, 1, _, rfl, ⟨by decide, by decide, by omega, by omega⟩, ?_⟩
    rw [show ((n : Int) - 1).toNat = n - 1 by omega]
    refine for_it walk_range (fun i σ H' => ∃ v x3 x4 x5, σ = [some (.int (n : Int)), some vm, some v, x3, x4, x5] ∧ Same H H' ∧ IsDB H' v (Ks578.configurations n i) (reachAt ms i) ∧ optL n ms = (((List.range n).map fun k => k + 1).drop i).findSome? fun k => firstComplete ms n k)
      ⟨v2, none, none, none, rfl, s3.trans s4, hv2, rfl⟩ (fun _ _ _ _ _ => trivial) ?_ ?_
    · rintro i x σ _ H3 hi ⟨v, x3, x4, x5, rfl, s5, hv, ho⟩ ⟨rfl, rfl⟩
      have hk : (1 : Int) + (i : Nat) = ((i + 1 : Nat) : Int) := by omega
      refine ⟨_, rfl, _, rfl, n, i + 1, (by rw [← hk]; rfl), hn1, hn5, by omega, fun vr H4 s6 hvr => ?_⟩
      refine ⟨_, rfl, _, rfl, _, rfl, vr, vm, v, _, n, ms, _, _, rfl, hvr, conf_nodup n (i + 1), Nat.le_trans (conf_few hn5 (by omega)) (by decide), by omega, IsLs.same mono_M (s5.trans s6) hm, hz, hin, hv.same s6, conf_behind hin, fun v' H5 s7 hv' => ?_⟩
      have hv' : IsDB H5 v' (Ks578.configurations n (i + 1)) (reachAt ms (i + 1)) := hv'
      refine ⟨_, rfl, _, rfl, vr, v', _, _, _, rfl, IsLs.same mono_T s7 hvr, hv', fun c hc => hc, fun y H6 s8 hy => ?_⟩
      have hy : vOpt H6 y (firstComplete ms n (i + 1)) := hy
      rw [opt_drop (by omega), List.findSome?_cons] at ho
      refine ⟨_, rfl, rfl, _, rfl, ?_⟩
      cases hf : firstComplete ms n (i + 1) with
      | none =>
        rw [hf] at hy ho
        have hy : y = .non := hy
        subst hy
        exact iteF ⟨v', _, _, _, rfl, ((s5.trans s6).trans s7).trans s8, hv'.same s8, ho⟩
      | some c =>
        rw [hf] at hy ho
        obtain ⟨ac, rfl, hac⟩ := hy
        exact iteT ⟨_, rfl, q _ c _ (((s5.trans s6).trans s7).trans s8) ho ⟨ac, rfl, hac⟩⟩
    · rintro σ H3 ⟨v, x3, x4, x5, rfl, s5, hv, ho⟩
      have e1 : n - 1 + 1 = n := by omega
      rw [opt_drop (by omega), e1, opt_end, List.findSome?_cons] at ho
      refine ⟨_, rfl, _, rfl, n, n, rfl, hn1, hn5, by omega, fun vr H4 s6 hvr => ?_⟩
      have hcb := conf_behind (k := n - 1) hin
      rw [e1] at hcb
      refine ⟨_, rfl, _, rfl, _, rfl, _, rfl, vr, vm, v, _, n, ms, _, _, rfl, hvr, conf_nodup n n, Nat.le_trans (conf_few hn5 (by omega)) (by decide), by omega, IsLs.same mono_M (s5.trans s6) hm, hz, hin, hv.same s6, hcb, fun v' H5 s7 hv' => ?_⟩
      have er : (fun c => reachOf c ms (reachAt ms (n - 1))) = reachAt ms n := by
        conv => rhs; rw [← e1]
        all_goals rfl
      rw [er] at hv'
      refine ⟨vr, v', _, _, _, rfl, IsLs.same mono_T s7 hvr, hv', fun c hc => hc, fun y H6 s8 hy => ?_⟩
      have hy : vOpt H6 y (firstComplete ms n n) := hy
      obtain ⟨c, hc⟩ := last_some hin
      rw [hc] at hy ho
      exact q _ c _ (((s5.trans s6).trans s7).trans s8) ho hy
/-! ### want -/
theorem sc_want : FnScope ["truth", "code"] ["truth", "code"] (defScope s_want) := ⟨rfl, rfl, rfl, by decide +kernel, rfl, by decide +kernel, by decide +kernel⟩
def sp_want (C : Addr) : Sp := fun vs H Q E => ∃ (b : Bool) (z : Int), vs = [.bl b, .int z] ∧ (b = true → Q .non H) ∧ (b = false → ∀ d H', Same H H' → H' d = some (.xd [("code", .int z)]) → E (.ref C) (some d) H')
theorem ok_want (D : DefAt K mg "want" s_want ["truth", "code"]) (T : RefTxt K mg C) : Has P w K mg base (L2.CX P w) 3 "want" ["truth", "code"] (sp_want C) := by
  obtain ⟨fI, fdI, FI, bI, iC, tI⟩ := T.fn
  have GI : FnOk P w K mg base CX0 1 fI fdI ["self", "code"] (sp_init K) := ok_init FI T.mV T.vV
  refine has_ofX D sc_want (fun vs H Q E h => ?_) (fun f cdv A outer s H vs Q E hr h => ?_)
  · obtain ⟨_, _, rfl, _⟩ := h
    rfl
  · obtain ⟨b, z, rfl, q1, q2⟩ := h
    refine ⟨_, pss_one (ps_if (pt_not (pt_val (pv 0))) (pss_one (ps_raise rfl (takes_of rfl rfl rfl rfl) (pmk_oex T.oex iC tI GI hr bI .nil pass0 rfl T.gC (pa_cons (pv 1) pa_nil)))) pss_nil), ?_⟩
    refine ⟨_, rfl, b, rfl, ?_⟩
    cases b with
    | true => exact iteF (q1 rfl)
    | false =>
      refine iteT ?_
      refine ⟨_, rfl, (by show 1 ≤ 1000; decide), fun a na => ⟨a, C, z, rfl, T.oex, T.nc, upd_same, fun dx nd ne => ⟨rfl, dx, _, upd_same, (by rw [upd_ne ne, upd_same]), (by rw [upd_ne ne] at nd; exact nd), ?_⟩⟩⟩
      rw [upd_ne ne] at nd
      refine q2 rfl dx _ (fun x o e => ?_) upd_same
      have n1 : x ≠ dx := ne_of_none e nd
      have n2 : x ≠ a := ne_of_none e na
      rw [upd_ne n1, del_ne n2, upd_ne n2, upd_ne n1, upd_ne n2]
      exact e
/-! ### pairs_of -/
theorem sc_pairs_of : FnScope ["numbers", "at"] ["numbers"] (defScope s_pairs_of) := ⟨rfl, rfl, rfl, by decide +kernel, rfl, by decide +kernel, by decide +kernel⟩
def sp_pairs_of (K : PySem.W.Frag) : Sp := fun vs H Q _ => ∃ (a : Addr) (ns : List Nat), vs = [.ref a] ∧ SqL K H a (ivs ns) ∧ ns.length % 2 = 0 ∧ ns.length ≤ 1000 ∧ ∀ v H', Same H H' → IsLs IsP H' v (edgesOf ns) → Q v H'
theorem ok_pairs_of (D : DefAt K mg "pairs_of" s_pairs_of ["numbers"]) (B : Bi mg) : Has P w K mg base CX0 1 "pairs_of" ["numbers"] (sp_pairs_of K) := by
  refine has_of D sc_pairs_of (fun vs H Q E h => ?_) (fun fa cdv A outer s H vs Q E hr h => ?_)
  · obtain ⟨_, _, rfl, _⟩ := h
    rfl
  · obtain ⟨a, ns, rfl, ha, he, hz, q⟩ := h
    refine ⟨_, pss_one (ps_ret (pe_lc (own := [("at", 1)]) (g := gName 1) (tt := tYes) rfl sc_pairs_of.nd (pi_range3 rfl B.range (pa_cons pe_int (pa_cons (pe_callB call_len_seq rfl B.len boot_len (pa_cons (pv 0) pa_nil)) (pa_cons pe_int pa_nil))))
      (blkOk_by (own := [("at", 1)]) (N := ["numbers", "at"]) (sc := defScope s_pairs_of) (by decide +kernel)) (fun _ _ _ _ _ => pg_name (i := 1) sc_pairs_of.nd rfl (.inl rfl)) (fun _ _ _ _ _ => pts_nil)
      (fun _ _ _ _ _ => pe_tup (pa_cons (pe_ix (r := rIxL K) ix_list (pv 0) (pv 1) (fun _ _ => rfl)) (pa_cons (pe_ix (r := rIxL K) ix_list (pv 0) (pe_op op_add (pv 1) pe_int) (fun _ _ => rfl)) pa_nil))))), ?_⟩
    refine ⟨_, rfl, a, _, rfl, .inl ha, 0, _, 2, _, rfl, by rw [ivs_len]; exact rgC_2 (by omega), fun L nL => ?_⟩
    refine lc_map walk_rangeC mono_P (List.range ((ns.length + 1) / 2)) (List.length_range ..) (by omega) (fun _ => true) (fun i => (ns.getD (2 * i) 0, ns.getD (2 * i + 1) 0)) nL (fun _ _ => trivial) ?_ ?_
    · rintro i b x H1 H2 KK K0 hb s1 ⟨rfl, rfl⟩ k1 _
      have hi : i < (ns.length + 1) / 2 := by
        have := (List.getElem?_eq_some_iff.mp hb).1
        simpa using this
      have eb : b = i := by
        rw [List.getElem?_range hi] at hb
        exact (Option.some.inj hb).symm
      subst eb
      have h1 : 2 * b < ns.length := by omega
      have h2 : 2 * b + 1 < ns.length := by omega
      have e1 : (0 : Int) + (b : Nat) * 2 = ((2 * b : Nat) : Int) := by omega
      have e2 : (0 : Int) + (b : Nat) * 2 + 1 = ((2 * b + 1 : Nat) : Int) := by omega
      refine ⟨rfl, yes_of (iteT ?_)⟩
      exact ⟨_, rfl, _, rfl, a, _, _, _, rfl, rfl, Same.seq s1 ha, ivs_atz e1 h1, _, rfl, _, rfl, _, _, rfl, rfl, a, _, _, _, rfl, rfl, Same.seq s1 ha, ivs_atz e2 h2, (by show 2 ≤ sizeLine; decide), fun p np => k1 rfl _ _ (same_new np) ⟨p, rfl, upd_same⟩⟩
    · intro H1 acc s1 hacc hr2
      rw [edgesOf_range ns he] at hr2
      exact q _ _ s1 ⟨L, acc, rfl, hacc, hr2⟩
/-! ### is_rising -/
theorem sc_is_rising : FnScope ["pairs", "before", "pair"] ["pairs"] (defScope s_is_rising) := ⟨rfl, rfl, rfl, by decide +kernel, rfl, by decide +kernel, by decide +kernel⟩
def sp_is_rising : Sp := fun vs H Q _ => ∃ (v : V) (ps : List (Nat × Nat)), vs = [v] ∧ IsLs IsP H v ps ∧ ps.length ≤ 1000 ∧ ∀ H', Same H H' → Q (.bl (isRising ps)) H'
theorem cut_1 (xs : List V) : cutV xs (some 1) none = xs.drop 1 := by
  unfold cutV
  rw [show HT.sIx xs.length 0 (some 1) = min 1 xs.length from HT.sIx_nat xs.length 0 1, HT.sIx_none]
  cases xs with
  | nil => rfl
  | cons x r =>
    rw [show min 1 (x :: r).length = 1 by
      rw [List.length_cons]
      omega]
    show (List.take ((x :: r).length - 1) r) = r
    rw [List.length_cons, Nat.add_sub_cancel]
    exact List.take_length
theorem ok_is_rising (D : DefAt K mg "is_rising" s_is_rising ["pairs"]) (B : Bi mg) : Has P w K mg base CX0 1 "is_rising" ["pairs"] sp_is_rising := by
  refine has_of D sc_is_rising (fun vs H Q E h => ?_) (fun fa cdv A outer s H vs Q E hr h => ?_)
  · obtain ⟨_, _, rfl, _⟩ := h
    rfl
  · obtain ⟨_, ps, rfl, ⟨a, us, rfl, ha, ra⟩, hz, q⟩ := h
    refine ⟨_, pss_one (ps_ret (pe_callB (cr_all rfl) rfl B.all boot_all (pa_cons (pe_lc (own := [("before", 1), ("pair", 2)]) (g := gTup K 2 (gCons (gName 1) (gCons (gName 2) gNil))) (tt := tYes) rfl sc_is_rising.nd
      (pi_zip rfl B.zip (pa_cons (pv 0) (pa_cons (pe_slice sl_list (pv 0) (po_some pe_int) po_none) pa_nil)))
      (blkOk_by (own := [("before", 1), ("pair", 2)]) (N := ["pairs", "before", "pair"]) (sc := defScope s_is_rising) (by decide +kernel))
      (fun _ _ _ _ _ => pg_tup rfl (pgs_cons (pg_name (i := 1) sc_is_rising.nd rfl (.inl rfl)) (pgs_cons (pg_name (i := 2) sc_is_rising.nd rfl (.inl rfl)) pgs_nil))) (fun _ _ _ _ _ => pts_nil)
      (fun _ _ _ _ _ => pe_cmpR (r := rLtT K) (op_ltT hr.units0) (pv 1) (pv 2) (nomark _))) pa_nil))), ?_⟩
    refine ⟨_, rfl, _, rfl, 1, rfl, a, us, rfl, .inl (.inl ha), fun c nc => ?_⟩
    have s1 : Same H (upd H c (.lst (cutV us (some 1) none))) := same_new nc
    have hl : us.length = ps.length := Paired.length ra
    refine ⟨a, c, us, _, rfl, .inl (.inl (s1 _ _ ha)), .inl (.inl upd_same), fun L nL => ?_⟩
    refine lc_map (walk_zip (xs := us) (ys := cutV us (some 1) none) rfl) mono_B (ps.zip (ps.drop 1)) (by rw [cut_1, List.length_zip, List.length_drop, List.length_drop, hl]) (by rw [cut_1, List.length_drop]; omega) (fun _ => true) (fun x => ltP x.1 x.2) nL
      (fun H2 s2 => ⟨.inl (.inl (s2 _ _ (s1 _ _ ha))), .inl (.inl (s2 _ _ upd_same))⟩) ?_ ?_
    · rintro i b x H1 H2 KK K0 hb s2 ⟨T, y1, y2, rfl, nT, rfl, f1, f2⟩ k1 _
      obtain ⟨b1, b2⟩ := b
      have hb' : ps[i]? = some b1 ∧ (ps.drop 1)[i]? = some b2 := by
        rw [List.getElem?_zip_eq_some] at hb
        exact hb
      obtain ⟨g1, g2⟩ := hb'
      have r1 : IsP H y1 b1 := ra.get f1 g1
      have r2 : IsP H y2 b2 := by
        have f2 : (cutV us (some 1) none)[i]? = some y2 := f2
        rw [cut_1, List.getElem?_drop] at f2
        rw [List.getElem?_drop] at g2
        exact ra.get f2 g2
      have s3 : Same H1 (upd H1 T (.tup [y1, y2])) := same_new nT
      obtain ⟨a1, rfl, q1⟩ := mono_P _ _ _ _ (Same.t ((s1.trans s2).trans s3)) r1
      obtain ⟨a2, rfl, q2⟩ := mono_P _ _ _ _ (Same.t ((s1.trans s2).trans s3)) r2
      rw [ivs_ints] at q1 q2
      refine ⟨T, _, rfl, .inl (.inl upd_same), rfl, _, _, rfl, _, _, rfl, rfl, rfl, yes_of (iteT ?_)⟩
      exact ⟨_, rfl, _, rfl, a1, a2, _, _, rfl, rfl, .inl (.inl q1), .inl (.inl q2), k1 rfl _ _ s3 (by rw [lexLt_pl]; exact rfl)⟩
    · intro H1 acc s2 hacc hr2
      rw [all_keep] at hr2
      rw [AllR.bools hr2] at hacc
      refine ⟨L, _, rfl, .inl (.inl hacc), q_bl ?_ (q H1 (s1.trans s2))⟩
      unfold isRising
      rw [List.all_map]
      rfl
/-! ### are_edges -/
theorem sc_are_edges : FnScope ["vertex_count", "numbers", "pairs", "low", "high"] ["vertex_count", "numbers"] (defScope s_are_edges) := ⟨rfl, rfl, rfl, by decide +kernel, rfl, by decide +kernel, by decide +kernel⟩
def sp_are_edges (K : PySem.W.Frag) : Sp := fun vs H Q _ => ∃ (n : Nat) (a : Addr) (es : List Nat), vs = [.int (n : Int), .ref a] ∧ SqL K H a (ivs es) ∧ es.length ≤ 1000 ∧ ∀ H', Same H H' → Q (.bl (areEdges n es)) H'
theorem ok_are_edges (D : DefAt K mg "are_edges" s_are_edges ["vertex_count", "numbers"]) (B : Bi mg) (G1 : Has P w K mg base CX0 1 "pairs_of" ["numbers"] (sp_pairs_of K)) (G2 : Has P w K mg base CX0 1 "is_rising" ["pairs"] sp_is_rising) :
    Has P w K mg base CX0 2 "are_edges" ["vertex_count", "numbers"] (sp_are_edges K) := by
  refine has_of D sc_are_edges (fun vs H Q E h => ?_) (fun fa cdv A outer s H vs Q E hr h => ?_)
  · obtain ⟨_, _, _, rfl, _⟩ := h
    rfl
  · obtain ⟨n, a, es, rfl, ha, hz, q⟩ := h
    refine ⟨_, pss_cons (ps_if (pt_cmpR op_ne (pe_op op_mod (pe_callB call_len_seq rfl B.len boot_len (pa_cons (pv 1) pa_nil)) pe_int) pe_int (nomark _)) (pss_one (ps_ret pe_bl)) pss_nil)
      (pss_cons (ps_set (i := 2) sc_are_edges.nd rfl (.inl rfl) (pe_f G1 hr (pa_cons (pv 1) pa_nil)))
      (pss_one (ps_ret (pe_and (pe_callB (cr_all rfl) rfl B.all boot_all (pa_cons (pe_lc (own := [("low", 3), ("high", 4)]) (g := gTup K 2 (gCons (gName 3) (gCons (gName 4) gNil))) (tt := tYes) rfl sc_are_edges.nd (pi_list (pv 2))
        (blkOk_by (own := [("low", 3), ("high", 4)]) (N := ["vertex_count", "numbers", "pairs", "low", "high"]) (sc := defScope s_are_edges) (by decide +kernel))
        (fun _ _ _ _ _ => pg_tup rfl (pgs_cons (pg_name (i := 3) sc_are_edges.nd rfl (.inl rfl)) (pgs_cons (pg_name (i := 4) sc_are_edges.nd rfl (.inl rfl)) pgs_nil))) (fun _ _ _ _ _ => pts_nil)
        (fun _ _ _ _ _ => pe_and (pe_cmpR op_lt (pv 3) (pv 4) (nomark _)) (pe_one (pe_cmpR op_lt (pv 4) (pv 0) (nomark _))))) pa_nil)) (pe_one (pe_f G2 hr (pa_cons (pv 2) pa_nil))))))), ?_⟩
    refine ⟨_, rfl, a, _, rfl, .inl ha, _, _, rfl, rfl, (by show (0 : Int) < 2; decide), rfl, _, rfl, ite2 (fun e => ?_) (fun e => ?_)⟩
    · refine q_bl ?_ (q H (Same.refl H))
      have e : (!decide (V.int (((ivs es).length : Int) % 2) = V.int 0)) = true := e
      have e' : ¬ (((ivs es).length : Int) % 2 = 0) := fun z => by rw [z] at e; simp at e
      rw [ivs_len] at e'
      unfold areEdges
      have : (es.length % 2 == 0) = false := by
        rw [beq_eq_false_iff_ne]
        omega
      rw [this, Bool.false_and]
    · have e : ¬ (!decide (V.int (((ivs es).length : Int) % 2) = V.int 0)) = true := e
      have e' : ((ivs es).length : Int) % 2 = 0 := by
        rw [Bool.not_eq_true, Bool.not_eq_false'] at e
        exact V.int.inj (of_decide_eq_true e)
      rw [ivs_len] at e'
      have he : es.length % 2 = 0 := by omega
      have hE : areEdges n es = (inRange n (edgesOf es) && isRising (edgesOf es)) := by
        unfold areEdges
        rw [he]
        rfl
      have hpl := edgesOf_le es
      refine ⟨_, rfl, a, es, rfl, ha, he, hz, fun v H1 s1 hv => ?_⟩
      obtain ⟨b, us, rfl, hb, rb⟩ := id hv
      have hlu : (edgesOf es).length = us.length := (Paired.length rb).symm
      refine ⟨_, rfl, b, rfl, ⟨_, .inl (.inl hb)⟩, fun L nL => ?_⟩
      refine lc_map (walk_list (xs := us)) mono_B (edgesOf es) hlu (by omega) (fun _ => true) (fun p => decide (p.1 < p.2) && decide (p.2 < n)) nL (fun H2 s2 => .inl (.inl (s2 _ _ hb))) ?_ ?_
      · rintro i ⟨lo, hi⟩ x _ H2 KK K0 hbb s2 ⟨rfl, hx⟩ k1 _
        have r1 : IsP H1 x (lo, hi) := rb.get hx hbb
        obtain ⟨t, rfl, ht⟩ := mono_P _ _ _ _ (Same.t s2) r1
        have ht : H2 t = some (.tup [.int (lo : Int), .int (hi : Int)]) := ht
        refine ⟨t, _, rfl, .inl (.inl ht), rfl, _, _, rfl, _, _, rfl, rfl, rfl, yes_of (iteT ?_)⟩
        refine ⟨_, rfl, _, rfl, _, _, rfl, rfl, _, rfl, ite2 (fun e1 => ?_) (fun e1 => ?_)⟩
        · refine ⟨_, rfl, _, rfl, _, _, rfl, rfl, k1 rfl _ _ (Same.refl _) ?_⟩
          have := of_decide_eq_true e1
          show V.bl (decide ((hi : Int) < (n : Int))) = V.bl (decide (lo < hi) && decide (hi < n))
          rw [decide_eq_true (show lo < hi by omega), Bool.true_and]
          exact congrArg V.bl (dec_eq (by omega))
        · refine k1 rfl _ _ (Same.refl _) ?_
          have : ¬ (lo : Int) < (hi : Int) := fun z => e1 (decide_eq_true z)
          show V.bl false = V.bl (decide (lo < hi) && decide (hi < n))
          rw [decide_eq_false (show ¬ lo < hi by omega), Bool.false_and]
      · intro H2 acc s2 hacc hr2
        rw [all_keep] at hr2
        rw [AllR.bools hr2] at hacc
        refine ⟨L, _, rfl, .inl (.inl hacc), _, rfl, ite2 (fun e1 => ?_) (fun e1 => ?_)⟩
        · have e1 : (((edgesOf es).map fun p => decide (p.1 < p.2) && decide (p.2 < n)).all id) = true := e1
          rw [List.all_map] at e1
          refine ⟨_, rfl, _, edgesOf es, rfl, IsLs.same mono_P s2 hv, by omega, fun H3 s3 => q_bl ?_ (q H3 ((s1.trans s2).trans s3))⟩
          rw [hE, show inRange n (edgesOf es) = true from e1, Bool.true_and]
        · have e1 : ¬ (((edgesOf es).map fun p => decide (p.1 < p.2) && decide (p.2 < n)).all id) = true := e1
          rw [List.all_map] at e1
          refine q_bl ?_ (q H2 (s1.trans s2))
          rw [hE, show inRange n (edgesOf es) = false from Bool.eq_false_iff.mpr e1, Bool.false_and]
/-! ### are_adjacent -/
theorem sc_are_adjacent : FnScope ["pairs", "vertex", "other"] ["pairs", "vertex", "other"] (defScope s_are_adjacent) := ⟨rfl, rfl, rfl, by decide +kernel, rfl, by decide +kernel, by decide +kernel⟩
def sp_are_adjacent : Sp := fun vs H Q _ => ∃ (v : V) (ps : List (Nat × Nat)) (a b : Nat), vs = [v, .int (a : Int), .int (b : Int)] ∧ IsLs IsP H v ps ∧ ∀ H', Same H H' → Q (.bl (adj ps a b)) H'
theorem ok_are_adjacent (D : DefAt K mg "are_adjacent" s_are_adjacent ["pairs", "vertex", "other"]) : Has P w K mg base CX0 1 "are_adjacent" ["pairs", "vertex", "other"] sp_are_adjacent := by
  refine has_of D sc_are_adjacent (fun vs H Q E h => ?_) (fun fa cdv A outer s H vs Q E hr h => ?_)
  · obtain ⟨_, _, _, _, rfl, _⟩ := h
    rfl
  · obtain ⟨v, ps, a, b, rfl, hv, q⟩ := h
    refine ⟨_, pss_one (ps_ret (pe_or (pe_cmpR (op_inD (Room.u65 hr)) (pe_tup (pa_cons (pv 1) (pa_cons (pv 2) pa_nil))) (pv 0) rfl) (pe_one (pe_cmpR (op_inD (Room.u65 hr)) (pe_tup (pa_cons (pv 2) (pa_cons (pv 1) pa_nil))) (pv 0) rfl)))), ?_⟩
    refine ⟨_, rfl, _, rfl, (by show 2 ≤ sizeLine; decide), fun p np => ?_⟩
    have s1 : Same H (upd H p (.tup [.int (a : Int), .int (b : Int)])) := same_new np
    have t1 : IsP (upd H p (.tup [.int (a : Int), .int (b : Int)])) (.ref p) (a, b) := ⟨p, rfl, upd_same⟩
    refine ⟨_, rfl, pD (a, b), ps.map pD, dp_T t1, dp_L (IsLs.same mono_P s1 hv), pD_shaped _, pDs_shaped ps, _, rfl, ite2 (fun e => ?_) (fun e => ?_)⟩
    · have e : ((ps.map pD).any fun z => PyData.eqv z (pD (a, b))) = true := e
      rw [any_pD] at e
      refine q_bl ?_ (q _ s1)
      show true = (ps.contains (a, b) || ps.contains (b, a))
      rw [e, Bool.true_or]
    · have e : ¬ ((ps.map pD).any fun z => PyData.eqv z (pD (a, b))) = true := e
      rw [any_pD] at e
      refine ⟨_, rfl, _, rfl, (by show 2 ≤ sizeLine; decide), fun p' np' => ?_⟩
      have s2 : Same _ (upd (upd H p (.tup [.int (a : Int), .int (b : Int)])) p' (.tup [.int (b : Int), .int (a : Int)])) := same_new np'
      have t2 : IsP (upd (upd H p (.tup [.int (a : Int), .int (b : Int)])) p' (.tup [.int (b : Int), .int (a : Int)])) (.ref p') (b, a) := ⟨p', rfl, upd_same⟩
      refine ⟨_, rfl, pD (b, a), ps.map pD, dp_T t2, dp_L (IsLs.same mono_P (s1.trans s2) hv), pD_shaped _, pDs_shaped ps, q_bl ?_ (q _ (s1.trans s2))⟩
      rw [any_pD]
      show _ = (ps.contains (a, b) || ps.contains (b, a))
      rw [Bool.eq_false_iff.mpr e, Bool.false_or]
/-! ### neighbours -/
theorem sc_neighbours : FnScope ["vertex_count", "pairs", "vertex", "other"] ["vertex_count", "pairs", "vertex"] (defScope s_neighbours) := ⟨rfl, rfl, rfl, by decide +kernel, rfl, by decide +kernel, by decide +kernel⟩
def sp_neighbours : Sp := fun vs H Q _ => ∃ (n u : Nat) (v : V) (ps : List (Nat × Nat)), vs = [.int (n : Int), v, .int (u : Int)] ∧ n ≤ 1000 ∧ IsLs IsP H v ps ∧ ∀ x H', Same H H' → IsT H' x (nbrs n ps u) → Q x H'
theorem ok_neighbours (D : DefAt K mg "neighbours" s_neighbours ["vertex_count", "pairs", "vertex"]) (B : Bi mg) (G1 : Has P w K mg base CX0 1 "are_adjacent" ["pairs", "vertex", "other"] sp_are_adjacent) :
    Has P w K mg base CX0 2 "neighbours" ["vertex_count", "pairs", "vertex"] sp_neighbours := by
  refine has_of D sc_neighbours (fun vs H Q E h => ?_) (fun fa cdv A outer s H vs Q E hr h => ?_)
  · obtain ⟨_, _, _, _, rfl, _⟩ := h
    rfl
  · obtain ⟨n, u, v, ps, rfl, hn, hv, q⟩ := h
    refine ⟨_, pss_one (ps_ret (pe_callTy call_tuple_of rfl B.tuple boot_tuple (pa_cons (pe_lc (own := [("other", 3)]) (g := gName 3) rfl sc_neighbours.nd (pi_range1 rfl B.range (pa_cons (pv 0) pa_nil))
      (blkOk_by (own := [("other", 3)]) (N := ["vertex_count", "pairs", "vertex", "other"]) (sc := defScope s_neighbours) (by decide +kernel)) (fun _ _ _ _ _ => pg_name (i := 3) sc_neighbours.nd rfl (.inl rfl))
      (fun _ _ _ _ _ => pts_one (pt_val (pe_f G1 hr (pa_cons (pv 1) (pa_cons (pv 2) (pa_cons (pv 3) pa_nil)))))) (fun _ _ _ _ _ => pv 3)) pa_nil))), ?_⟩
    refine ⟨_, rfl, (n : Int), rfl, by omega, by omega, fun L nL => ?_⟩
    rw [show (n : Int).toNat = n from rfl]
    refine lc_map walk_range mono_N (List.range n) (List.length_range ..) (by omega) (fun o => adj ps u o) (fun o => o) nL (fun _ _ => trivial) ?_ ?_
    · rintro i b x H1 _ KK K0 hb s1 ⟨rfl, rfl⟩ k1 k0
      have hi : i < n := by
        have := (List.getElem?_eq_some_iff.mp hb).1
        simpa using this
      have eb : b = i := by
        rw [List.getElem?_range hi] at hb
        exact (Option.some.inj hb).symm
      subst eb
      have e0 : V.int (0 + (b : Nat)) = V.int (b : Int) := by rw [Int.zero_add]
      refine ⟨rfl, _, rfl, _, rfl, _, rfl, v, ps, u, b, (by rw [← e0]; rfl), IsLs.same mono_P s1 hv, fun H2 s2 => ⟨_, rfl, ite2 (fun e => ?_) (fun e => ?_)⟩⟩
      · exact ⟨_, rfl, k1 e _ _ s2 e0⟩
      · exact k0 (Bool.eq_false_iff.mpr e) _ s2
    · intro H1 acc s1 hacc hr2
      rw [List.map_id'] at hr2
      refine ⟨L, acc, rfl, .inl ⟨.inl (.inl hacc), fun p np => q _ _ (Same.upd s1 (none_of s1 np)) ⟨p, rfl, ?_⟩⟩⟩
      rw [upd_same, AllR.nats hr2]
      rfl
/-! ### read_graph -/
theorem sc_read_graph : FnScope ["vertex_count", "edges", "pairs", "vertex"] ["vertex_count", "edges"] (defScope s_read_graph) := ⟨rfl, rfl, rfl, by decide +kernel, rfl, by decide +kernel, by decide +kernel⟩
def sp_read_graph (K : PySem.W.Frag) (C : Addr) : Sp := fun vs H Q E => ∃ (n : Nat) (a : Addr) (es : List Nat), vs = [.int (n : Int), .ref a] ∧ SqL K H a (ivs es) ∧ es.length ≤ 1000 ∧
  (graphOk n es = true → ∀ v H', Same H H' → IsTs IsT H' v (graphOf n (edgesOf es)) → Q v H') ∧ (graphOk n es = false → Ref E C H (-22))
theorem ok_read_graph (D : DefAt K mg "read_graph" s_read_graph ["vertex_count", "edges"]) (B : Bi mg) (c1 : ConAt mg "MOST_VERTICES" 5) (c2 : ConAt mg "OUT_OF_LIMITS" (-22)) (GW : Has P w K mg base (L2.CX P w) 3 "want" ["truth", "code"] (sp_want C))
    (G1 : Has P w K mg base CX0 2 "are_edges" ["vertex_count", "numbers"] (sp_are_edges K)) (G2 : Has P w K mg base CX0 1 "pairs_of" ["numbers"] (sp_pairs_of K)) (G3 : Has P w K mg base CX0 2 "neighbours" ["vertex_count", "pairs", "vertex"] sp_neighbours) :
    Has P w K mg base (L2.CX P w) 4 "read_graph" ["vertex_count", "edges"] (sp_read_graph K C) := by
  refine has_ofX D sc_read_graph (fun vs H Q E h => ?_) (fun fa cdv A outer s H vs Q E hr h => ?_)
  · obtain ⟨_, _, _, rfl, _⟩ := h
    rfl
  · obtain ⟨n, a, es, rfl, ha, hz, q1, q2⟩ := h
    refine ⟨_, pss_cons (ps_expr (pe_fX (E := E) GW hr (takes_of rfl rfl rfl rfl) (pa_cons (pe_and (pe_cmpR op_le pe_int (pv 0) (nomark _)) (pe_one (pe_cmpR op_le (pv 0) (pe_con_at c1) (nomark _)))) (pa_cons (pe_con_at c2) pa_nil))))
      (pss_cons (ps_expr (pe_fX (E := E) GW hr (takes_of rfl rfl rfl rfl) (pa_cons (pe_f G1 (hr.mono (by decide)) (pa_cons (pv 0) (pa_cons (pv 1) pa_nil))) (pa_cons (pe_con_at c2) pa_nil))))
      (pss_cons (ps_set (i := 2) sc_read_graph.nd rfl (.inr rfl) (pe_f G2 (hr.mono (by decide)) (pa_cons (pv 1) pa_nil)))
      (pss_one (ps_ret (pe_callTy call_tuple_of rfl B.tuple boot_tuple (pa_cons (pe_lc (own := [("vertex", 3)]) (g := gName 3) (tt := tYes) rfl sc_read_graph.nd (pi_range1 rfl B.range (pa_cons (pv 0) pa_nil))
        (blkOk_by (own := [("vertex", 3)]) (N := ["vertex_count", "edges", "pairs", "vertex"]) (sc := defScope s_read_graph) (by decide +kernel)) (fun _ _ _ _ _ => pg_name (i := 3) sc_read_graph.nd rfl (.inl rfl))
        (fun _ _ _ _ _ => pts_nil) (fun _ _ _ _ _ => pe_f G3 (hr.mono (by decide)) (pa_cons (pv 0) (pa_cons (pv 2) (pa_cons (pv 3) pa_nil))))) pa_nil)))))), ?_⟩
    refine ⟨_, rfl, _, _, rfl, rfl, _, rfl, ite2 (fun e1 => ?_) (fun e1 => ?_)⟩
    · have e1 := of_decide_eq_true e1
      refine ⟨_, rfl, _, _, rfl, rfl, _, -22, rfl, fun hb => ?_, fun hb => q2 ?_⟩
      rotate_left
      · have hb : decide ((n : Int) ≤ 5) = false := hb
        have hb := of_decide_eq_false hb
        unfold graphOk
        rw [decide_eq_false (show ¬ n ≤ 5 by omega), Bool.and_false, Bool.false_and]
      · have hn5 : (n : Int) ≤ 5 := of_decide_eq_true hb
        have hgo : graphOk n es = areEdges n es := by
          unfold graphOk
          rw [decide_eq_true (show 1 ≤ n by omega), decide_eq_true (show n ≤ 5 by omega)]
          rfl
        refine ⟨_, rfl, _, rfl, n, a, es, rfl, ha, hz, fun H1 s1 => ⟨areEdges n es, -22, rfl, fun hE => ?_, fun hE => (q2 (hgo.trans hE)).of s1⟩⟩
        have he : es.length % 2 = 0 := by
          unfold areEdges at hE
          rw [Bool.and_eq_true] at hE
          exact eq_of_beq hE.1
        refine ⟨_, rfl, a, es, rfl, Same.seq s1 ha, he, hz, fun v H2 s2 hv => ?_⟩
        refine ⟨_, rfl, (n : Int), rfl, by omega, by omega, fun L nL => ?_⟩
        rw [show (n : Int).toNat = n from rfl]
        refine lc_map walk_range mono_T (List.range n) (List.length_range ..) (by omega) (fun _ => true) (fun x => nbrs n (edgesOf es) x) nL (fun _ _ => trivial) ?_ ?_
        · rintro i b x H3 _ KK K0 hb s3 ⟨rfl, rfl⟩ k1 k0
          have hi : i < n := by
            have := (List.getElem?_eq_some_iff.mp hb).1
            simpa using this
          have eb : b = i := by
            rw [List.getElem?_range hi] at hb
            exact (Option.some.inj hb).symm
          subst eb
          have e0 : V.int (0 + (b : Nat)) = V.int (b : Int) := by rw [Int.zero_add]
          refine ⟨rfl, yes_of (iteT ?_)⟩
          exact ⟨_, rfl, _, rfl, _, rfl, n, b, v, edgesOf es, (by rw [← e0]; rfl), by omega, IsLs.same mono_P s3 hv, fun y H4 s4 r4 => k1 rfl _ _ s4 r4⟩
        · intro H3 acc s3 hacc hr2
          rw [all_keep] at hr2
          refine ⟨L, acc, rfl, .inl ⟨.inl (.inl hacc), fun p np => q1 (hgo.trans hE) _ _ (Same.upd ((s1.trans s2).trans s3) (none_of ((s1.trans s2).trans s3) np)) ⟨p, acc, rfl, upd_same, AllR.mono mono_T (Same.t (same_new np)) hr2⟩⟩⟩
    · refine ⟨false, -22, rfl, fun hb => Bool.noConfusion hb, fun _ => q2 ?_⟩
      have e1 : ¬ (1 : Int) ≤ (n : Int) := fun z => e1 (decide_eq_true z)
      unfold graphOk
      rw [decide_eq_false (show ¬ 1 ≤ n by omega), Bool.false_and, Bool.false_and]
/-! ### told_optimal -/
theorem sc_told_optimal : FnScope ["vertex_count", "edges", "graph", "found"] ["vertex_count", "edges"] (defScope s_told_optimal) := ⟨rfl, rfl, rfl, by decide +kernel, rfl, by decide +kernel, by decide +kernel⟩
def sp_told_optimal (K : PySem.W.Frag) (C : Addr) : Sp := fun vs H Q E => ∃ (n : Nat) (a : Addr) (es : List Nat), vs = [.int (n : Int), .ref a] ∧ SqL K H a (ivs es) ∧ es.length ≤ 1000 ∧ Outs Q E C H (optimalL n es)
theorem opt_len {n : Nat} {ms : List Mv} {c : Cfg} (h : optL n ms = some c) : c.length = n := by
  obtain ⟨k, _, hk⟩ := List.exists_of_findSome?_eq_some h
  exact (first_mem hk).1
theorem ok_told_optimal (D : DefAt K mg "told_optimal" s_told_optimal ["vertex_count", "edges"]) (B : Bi mg) (G1 : Has P w K mg base (L2.CX P w) 4 "read_graph" ["vertex_count", "edges"] (sp_read_graph K C))
    (G2 : Has P w K mg base CX0 5 "optimal" ["vertex_count", "moves"] sp_optimal) (G3 : Has P w K mg base CX0 1 "rubbling_moves" ["graph"] sp_rubbling_moves) :
    Has P w K mg base (L2.CX P w) 6 "told_optimal" ["vertex_count", "edges"] (sp_told_optimal K C) := by
  refine has_ofX D sc_told_optimal (fun vs H Q E h => ?_) (fun fa cdv A outer s H vs Q E hr h => ?_)
  · obtain ⟨_, _, _, rfl, _⟩ := h
    rfl
  · obtain ⟨n, a, es, rfl, ha, hz, q⟩ := h
    refine ⟨_, pss_cons (ps_set (i := 2) sc_told_optimal.nd rfl (.inl rfl) (pe_fX (E := E) G1 (hr.mono (by decide)) (takes_of rfl rfl rfl rfl) (pa_cons (pv 0) (pa_cons (pv 1) pa_nil))))
      (pss_cons (ps_set (i := 3) sc_told_optimal.nd rfl (.inl rfl) (pe_f G2 hr (pa_cons (pe_callB call_len_seq rfl B.len boot_len (pa_cons (pv 2) pa_nil)) (pa_cons (pe_f G3 (hr.mono (by decide)) (pa_cons (pv 2) pa_nil)) pa_nil))))
      (pss_one (ps_ret (pe_op op_cat (pe_lst (pa_cons (pe_callB (cr_sumT rfl) rfl B.sum boot_sum (pa_cons (pv 3) pa_nil)) pa_nil)) (pe_callTy call_list_of rfl B.list boot_list (pa_cons (pv 3) pa_nil)))))), ?_⟩
    refine ⟨_, rfl, _, rfl, n, a, es, rfl, ha, hz, fun hg v H1 s1 hv => ?_, fun hg => q.2 _ ?_⟩
    · have hgl : (graphOf n (edgesOf es)).length = n := graphOf_length ..
      obtain ⟨hn1, hn5⟩ := graphOk_le hg
      obtain ⟨c, hc⟩ := opt_some hn1 (rubMoves_in n (edgesOf es))
      have hL : optimalL n es = ofNats (c.sum :: c) := by
        unfold optimalL
        rw [if_pos hg, hc]
      obtain ⟨g, gs, rfl, hgs, rg⟩ := hv
      have hgn : gs.length = n := (Paired.length rg).trans hgl
      refine ⟨_, rfl, g, gs, rfl, .inr (.inl (.inl hgs)), _, rfl, .ref g, _, rfl, ⟨g, gs, rfl, hgs, rg⟩, graphOf_small hn5, fun y H2 s2 hy => ?_⟩
      refine ⟨y, n, _, (by rw [hgn]; rfl), hn1, hn5, hy, Nat.le_trans (rubMoves_len (graphOf_small hn5)) (by decide), rubMoves_in n _, fun z c' H3 s3 hc' hzc => ?_⟩
      rw [hc] at hc'
      cases hc'
      have hcl := opt_len hc
      obtain ⟨az, rfl, haz⟩ := hzc
      refine ⟨_, rfl, az, ofNats c, rfl, (by rw [← ivs_ints]; exact .inl (.inl haz)), (by show 1 ≤ sizeLine; decide), fun l nl => ?_⟩
      have s4 : Same H3 (upd H3 l (.lst [.int (ofNats c).sum])) := same_new nl
      refine ⟨_, rfl, az, ivs c, rfl, .inr (.inl (.inl (s4 _ _ haz))), fun l2 nl2 => ?_⟩
      have s5 : Same (upd H3 l (.lst [.int (ofNats c).sum])) (upd (upd H3 l (.lst [.int (ofNats c).sum])) l2 (.lst (ivs c))) := same_new nl2
      refine ⟨l, l2, _, _, rfl, rfl, s5 _ _ upd_same, upd_same, line_le (by rw [ivs_len, hcl]; show 1 + n ≤ _; omega), fun p np => ?_⟩
      have s6 := ((s1.trans s2).trans s3).trans (s4.trans s5)
      refine q.1 p _ (Same.upd s6 (none_of s6 np)) ?_
      rw [upd_same, hL, ivs_ints, ofNats_sum]
      rfl
    · unfold optimalL
      rw [if_neg (by rw [hg]; exact Bool.false_ne_true)]
/-! ### optimal_configuration -/
theorem sc_optimal_configuration : FnScope ["vertex_count", "edges", "e"] ["vertex_count", "edges"] (defScope s_optimal_configuration) := ⟨rfl, rfl, rfl, by decide +kernel, rfl, by decide +kernel, by decide +kernel⟩
def sp_optimal_configuration (K : PySem.W.Frag) : Sp := fun vs H Q _ => ∃ (n : Nat) (a : Addr) (es : List Nat), vs = [.int (n : Int), .ref a] ∧ SqL K H a (ivs es) ∧ es.length ≤ 1000 ∧
  ∀ (p : Addr) (H' : Hp), H' p = some (.lst ((optimalL n es).map V.int)) → Q (.ref p) H'
theorem ok_optimal_configuration {fa : Addr} {fd : FuncData} (F : Fun K "optimal_configuration" "optimal_configuration" s_optimal_configuration fa fd) (T : RefTxt K mg C) (G : Has P w K mg base (L2.CX P w) 6 "told_optimal" ["vertex_count", "edges"] (sp_told_optimal K C)) :
    FnOk P w K mg base CX0 7 fa fd ["vertex_count", "edges"] (sp_optimal_configuration K) := by
  refine F.ok sc_optimal_configuration (fun vs H Q E h => ?_) (fun cdv A outer s H vs Q E hr h => ?_)
  · obtain ⟨_, _, _, rfl, _⟩ := h
    rfl
  · obtain ⟨n, a, es, rfl, ha, hz, q⟩ := h
    refine ⟨_, pss_one (ps_try_as (i := 2) (tb := fun W => tRet (tCallS (sp_told_optimal K C) (WE W) (tCons (tVar 0) (tCons (tVar 1) tNil))))
      (ts := fun a cls d => tRet (tLst (tCons (tXf a cls d C "code" (tVar 2)) tNil))) (Wout := fun _ _ _ _ => False) rfl rfl sc_optimal_configuration.nd rfl rfl ⟨rfl, by decide, Or.inl T.gC⟩ takes0
      (fun W pn xe tk _ => pss_one (ps_ret (pe_fS G hr tk (pa_cons (pv 0) (pa_cons (pv 1) pa_nil)))))
      (fun a oe cls d pn hz hf => pss_one (ps_ret (pe_lst (pa_cons (pe_xf T.xf T.nc hz hf (pv 2)) pa_nil))))), ?_⟩
    refine ⟨_, rfl, _, rfl, n, a, es, rfl, ha, hz, fun p H' _ e => q p H' e, fun z ez d H' _ e => ?_⟩
    refine ⟨true, T.te, fun _ a0 _ => ?_, fun w => Bool.noConfusion w⟩
    refine ⟨_, rfl, rfl, rfl, d, _, _, rfl, e, code_at z, (by show 1 ≤ sizeLine; decide), fun p np => q p _ ?_⟩
    rw [upd_same, ez]
    rfl
end
end RW
namespace RW
open PySem PySem.Spec PyProof.Rows L2 Rub
section
theorem all_mk {P : Program} {w : World} {K : PySem.W.Frag} {h : Heap} {mg : Str → Option Value} {fa C fI : Addr}
    {nm q : Str} {N : Addr} {bs : List Value} {sn : List Str} {sub : List Value} {ab : Bool} {col : Option Bool} {dd : Option Addr} {m0 m1 m2 m3 m5 : Option Value}
    {odI anI : Option Addr} {slI : Array (Option Value)} {ocI kVI dcI pmI cdI ctI : Value}
    {f0 : Addr} {od0 an0 : Option Addr} {sl0 : Array (Option Value)} {oc0 kV0 dc0 pm0 cd0 ct0 : Value}
    {f1 : Addr} {od1 an1 : Option Addr} {sl1 : Array (Option Value)} {oc1 kV1 dc1 pm1 cd1 ct1 : Value}
    {f2 : Addr} {od2 an2 : Option Addr} {sl2 : Array (Option Value)} {oc2 kV2 dc2 pm2 cd2 ct2 : Value}
    {f3 : Addr} {od3 an3 : Option Addr} {sl3 : Array (Option Value)} {oc3 kV3 dc3 pm3 cd3 ct3 : Value}
    {f4 : Addr} {od4 an4 : Option Addr} {sl4 : Array (Option Value)} {oc4 kV4 dc4 pm4 cd4 ct4 : Value}
    {f5 : Addr} {od5 an5 : Option Addr} {sl5 : Array (Option Value)} {oc5 kV5 dc5 pm5 cd5 ct5 : Value}
    {f6 : Addr} {od6 an6 : Option Addr} {sl6 : Array (Option Value)} {oc6 kV6 dc6 pm6 cd6 ct6 : Value}
    {f7 : Addr} {od7 an7 : Option Addr} {sl7 : Array (Option Value)} {oc7 kV7 dc7 pm7 cd7 ct7 : Value}
    {f8 : Addr} {od8 an8 : Option Addr} {sl8 : Array (Option Value)} {oc8 kV8 dc8 pm8 cd8 ct8 : Value}
    {f9 : Addr} {od9 an9 : Option Addr} {sl9 : Array (Option Value)} {oc9 kV9 dc9 pm9 cd9 ct9 : Value}
    {f10 : Addr} {od10 an10 : Option Addr} {sl10 : Array (Option Value)} {oc10 kV10 dc10 pm10 cd10 ct10 : Value}
    {f11 : Addr} {od11 an11 : Option Addr} {sl11 : Array (Option Value)} {oc11 kV11 dc11 pm11 cd11 ct11 : Value}
    {f12 : Addr} {od12 an12 : Option Addr} {sl12 : Array (Option Value)} {oc12 kV12 dc12 pm12 cd12 ct12 : Value}
    {f13 : Addr} {od13 an13 : Option Addr} {sl13 : Array (Option Value)} {oc13 kV13 dc13 pm13 cd13 ct13 : Value}
    {f14 : Addr} {od14 an14 : Option Addr} {sl14 : Array (Option Value)} {oc14 kV14 dc14 pm14 cd14 ct14 : Value}
    {f15 : Addr} {od15 an15 : Option Addr} {sl15 : Array (Option Value)} {oc15 kV15 dc15 pm15 cd15 ct15 : Value}
    {f16 : Addr} {od16 an16 : Option Addr} {sl16 : Array (Option Value)} {oc16 kV16 dc16 pm16 cd16 ct16 : Value}
    {f17 : Addr} {od17 an17 : Option Addr} {sl17 : Array (Option Value)} {oc17 kV17 dc17 pm17 cd17 ct17 : Value}
    {f18 : Addr} {od18 an18 : Option Addr} {sl18 : Array (Option Value)} {oc18 kV18 dc18 pm18 cd18 ct18 : Value}
    {t0 : Tok}
    {t1 : Tok}
    (X : K.In h) (G : h.Ns mainGlobals mg) (hfa : mg "optimal_configuration" = some (.ref fa))
    (aC : PySem.W.nsIn K mainGlobals "Refused" = some (some (.ref C)))
    (xL : K.lookup C = some (excClassObj nm q C N bs [.type "ValueError", .type "Exception", .type "BaseException", .type "object"] true sn sub ab col dd m0 m1 m2 m3 m5 "ValueError.__new__"))
    (xsa : PySem.W.findIn K (.ref C) "__setattr__" = some (some (.builtin "object.__setattr__")))
    (xga : PySem.W.findIn K (.ref C) "__getattribute__" = some (some (.builtin "BaseException.__getattribute__")))
    (xgg : PySem.W.findIn K (.ref C) "__getattr__" = some none)
    (xnc : PySem.W.findIn K (.ref C) "code" = some none)
    (xI : PySem.W.findIn K (.ref C) "__init__" = some (some (.ref fI)))
    (xtI : PySem.W.typeIn K (.ref fI) = some (.type "function"))
    (xlI : K.lookup fI = some ⟨ocI, odI, .func (PySem.W.fnOf "__init__" "Refused.__init__" (defArgs s_init) (defBody s_init) (defScope s_init) .none kVI dcI pmI anI cdI ctI), slI⟩)
    (xcI : PySem.W.codeIn K cdI "Refused.__init__" = true)
    (xkI : PySem.W.keepIn K (.ref fI) = true)
    (xkC : PySem.W.keepIn K (.ref C) = true)
    (xeC : PySem.W.subIn K (.ref C) (.type "BaseException") = some true)
    (xtC : PySem.W.typeIn K (.ref C) = some (.type "type"))
    (xhC : PySem.W.hasDictIn K C = true)
    (xiC : PySem.W.isClsIn K C = true)
    (xsC : PySem.W.subIn K (.ref C) (.ref C) = some true)
    (xmV : PySem.W.nsIn K mainGlobals "ValueError" = some none)
    (xvV : PySem.W.findCls K (.type "ValueError") (.type "type") "__init__" = some (.val (.builtin "ValueError.__init__")))
    (a0 : PySem.W.nsIn K mainGlobals "rubbling_moves" = some (some (.ref f0)))
    (l0 : K.lookup f0 = some ⟨oc0, od0, .func (PySem.W.fnOf "rubbling_moves" "rubbling_moves" (defArgs s_rubbling_moves) (defBody s_rubbling_moves) (defScope s_rubbling_moves) .none kV0 dc0 pm0 an0 cd0 ct0), sl0⟩)
    (c0 : PySem.W.codeIn K cd0 "rubbling_moves" = true)
    (k0 : PySem.W.keepIn K (.ref f0) = true)
    (a1 : PySem.W.nsIn K mainGlobals "has_pebbles" = some (some (.ref f1)))
    (l1 : K.lookup f1 = some ⟨oc1, od1, .func (PySem.W.fnOf "has_pebbles" "has_pebbles" (defArgs s_has_pebbles) (defBody s_has_pebbles) (defScope s_has_pebbles) .none kV1 dc1 pm1 an1 cd1 ct1), sl1⟩)
    (c1 : PySem.W.codeIn K cd1 "has_pebbles" = true)
    (k1 : PySem.W.keepIn K (.ref f1) = true)
    (a2 : PySem.W.nsIn K mainGlobals "moved" = some (some (.ref f2)))
    (l2 : K.lookup f2 = some ⟨oc2, od2, .func (PySem.W.fnOf "moved" "moved" (defArgs s_moved) (defBody s_moved) (defScope s_moved) .none kV2 dc2 pm2 an2 cd2 ct2), sl2⟩)
    (c2 : PySem.W.codeIn K cd2 "moved" = true)
    (k2 : PySem.W.keepIn K (.ref f2) = true)
    (a3 : PySem.W.nsIn K mainGlobals "all_behind" = some (some (.ref f3)))
    (l3 : K.lookup f3 = some ⟨oc3, od3, .func (PySem.W.fnOf "all_behind" "all_behind" (defArgs s_all_behind) (defBody s_all_behind) (defScope s_all_behind) .none kV3 dc3 pm3 an3 cd3 ct3), sl3⟩)
    (c3 : PySem.W.codeIn K cd3 "all_behind" = true)
    (k3 : PySem.W.keepIn K (.ref f3) = true)
    (a4 : PySem.W.nsIn K mainGlobals "longer_rows" = some (some (.ref f4)))
    (l4 : K.lookup f4 = some ⟨oc4, od4, .func (PySem.W.fnOf "longer_rows" "longer_rows" (defArgs s_longer_rows) (defBody s_longer_rows) (defScope s_longer_rows) .none kV4 dc4 pm4 an4 cd4 ct4), sl4⟩)
    (c4 : PySem.W.codeIn K cd4 "longer_rows" = true)
    (k4 : PySem.W.keepIn K (.ref f4) = true)
    (a5 : PySem.W.nsIn K mainGlobals "configurations" = some (some (.ref f5)))
    (l5 : K.lookup f5 = some ⟨oc5, od5, .func (PySem.W.fnOf "configurations" "configurations" (defArgs s_configurations) (defBody s_configurations) (defScope s_configurations) .none kV5 dc5 pm5 an5 cd5 ct5), sl5⟩)
    (c5 : PySem.W.codeIn K cd5 "configurations" = true)
    (k5 : PySem.W.keepIn K (.ref f5) = true)
    (a6 : PySem.W.nsIn K mainGlobals "reach_of" = some (some (.ref f6)))
    (l6 : K.lookup f6 = some ⟨oc6, od6, .func (PySem.W.fnOf "reach_of" "reach_of" (defArgs s_reach_of) (defBody s_reach_of) (defScope s_reach_of) .none kV6 dc6 pm6 an6 cd6 ct6), sl6⟩)
    (c6 : PySem.W.codeIn K cd6 "reach_of" = true)
    (k6 : PySem.W.keepIn K (.ref f6) = true)
    (a7 : PySem.W.nsIn K mainGlobals "all_reaches" = some (some (.ref f7)))
    (l7 : K.lookup f7 = some ⟨oc7, od7, .func (PySem.W.fnOf "all_reaches" "all_reaches" (defArgs s_all_reaches) (defBody s_all_reaches) (defScope s_all_reaches) .none kV7 dc7 pm7 an7 cd7 ct7), sl7⟩)
    (c7 : PySem.W.codeIn K cd7 "all_reaches" = true)
    (k7 : PySem.W.keepIn K (.ref f7) = true)
    (a8 : PySem.W.nsIn K mainGlobals "first_complete" = some (some (.ref f8)))
    (l8 : K.lookup f8 = some ⟨oc8, od8, .func (PySem.W.fnOf "first_complete" "first_complete" (defArgs s_first_complete) (defBody s_first_complete) (defScope s_first_complete) .none kV8 dc8 pm8 an8 cd8 ct8), sl8⟩)
    (c8 : PySem.W.codeIn K cd8 "first_complete" = true)
    (k8 : PySem.W.keepIn K (.ref f8) = true)
    (a9 : PySem.W.nsIn K mainGlobals "optimal" = some (some (.ref f9)))
    (l9 : K.lookup f9 = some ⟨oc9, od9, .func (PySem.W.fnOf "optimal" "optimal" (defArgs s_optimal) (defBody s_optimal) (defScope s_optimal) .none kV9 dc9 pm9 an9 cd9 ct9), sl9⟩)
    (c9 : PySem.W.codeIn K cd9 "optimal" = true)
    (k9 : PySem.W.keepIn K (.ref f9) = true)
    (a10 : PySem.W.nsIn K mainGlobals "want" = some (some (.ref f10)))
    (l10 : K.lookup f10 = some ⟨oc10, od10, .func (PySem.W.fnOf "want" "want" (defArgs s_want) (defBody s_want) (defScope s_want) .none kV10 dc10 pm10 an10 cd10 ct10), sl10⟩)
    (c10 : PySem.W.codeIn K cd10 "want" = true)
    (k10 : PySem.W.keepIn K (.ref f10) = true)
    (a11 : PySem.W.nsIn K mainGlobals "pairs_of" = some (some (.ref f11)))
    (l11 : K.lookup f11 = some ⟨oc11, od11, .func (PySem.W.fnOf "pairs_of" "pairs_of" (defArgs s_pairs_of) (defBody s_pairs_of) (defScope s_pairs_of) .none kV11 dc11 pm11 an11 cd11 ct11), sl11⟩)
    (c11 : PySem.W.codeIn K cd11 "pairs_of" = true)
    (k11 : PySem.W.keepIn K (.ref f11) = true)
    (a12 : PySem.W.nsIn K mainGlobals "is_rising" = some (some (.ref f12)))
    (l12 : K.lookup f12 = some ⟨oc12, od12, .func (PySem.W.fnOf "is_rising" "is_rising" (defArgs s_is_rising) (defBody s_is_rising) (defScope s_is_rising) .none kV12 dc12 pm12 an12 cd12 ct12), sl12⟩)
    (c12 : PySem.W.codeIn K cd12 "is_rising" = true)
    (k12 : PySem.W.keepIn K (.ref f12) = true)
    (a13 : PySem.W.nsIn K mainGlobals "are_edges" = some (some (.ref f13)))
    (l13 : K.lookup f13 = some ⟨oc13, od13, .func (PySem.W.fnOf "are_edges" "are_edges" (defArgs s_are_edges) (defBody s_are_edges) (defScope s_are_edges) .none kV13 dc13 pm13 an13 cd13 ct13), sl13⟩)
    (c13 : PySem.W.codeIn K cd13 "are_edges" = true)
    (k13 : PySem.W.keepIn K (.ref f13) = true)
    (a14 : PySem.W.nsIn K mainGlobals "are_adjacent" = some (some (.ref f14)))
    (l14 : K.lookup f14 = some ⟨oc14, od14, .func (PySem.W.fnOf "are_adjacent" "are_adjacent" (defArgs s_are_adjacent) (defBody s_are_adjacent) (defScope s_are_adjacent) .none kV14 dc14 pm14 an14 cd14 ct14), sl14⟩)
    (c14 : PySem.W.codeIn K cd14 "are_adjacent" = true)
    (k14 : PySem.W.keepIn K (.ref f14) = true)
    (a15 : PySem.W.nsIn K mainGlobals "neighbours" = some (some (.ref f15)))
    (l15 : K.lookup f15 = some ⟨oc15, od15, .func (PySem.W.fnOf "neighbours" "neighbours" (defArgs s_neighbours) (defBody s_neighbours) (defScope s_neighbours) .none kV15 dc15 pm15 an15 cd15 ct15), sl15⟩)
    (c15 : PySem.W.codeIn K cd15 "neighbours" = true)
    (k15 : PySem.W.keepIn K (.ref f15) = true)
    (a16 : PySem.W.nsIn K mainGlobals "read_graph" = some (some (.ref f16)))
    (l16 : K.lookup f16 = some ⟨oc16, od16, .func (PySem.W.fnOf "read_graph" "read_graph" (defArgs s_read_graph) (defBody s_read_graph) (defScope s_read_graph) .none kV16 dc16 pm16 an16 cd16 ct16), sl16⟩)
    (c16 : PySem.W.codeIn K cd16 "read_graph" = true)
    (k16 : PySem.W.keepIn K (.ref f16) = true)
    (a17 : PySem.W.nsIn K mainGlobals "told_optimal" = some (some (.ref f17)))
    (l17 : K.lookup f17 = some ⟨oc17, od17, .func (PySem.W.fnOf "told_optimal" "told_optimal" (defArgs s_told_optimal) (defBody s_told_optimal) (defScope s_told_optimal) .none kV17 dc17 pm17 an17 cd17 ct17), sl17⟩)
    (c17 : PySem.W.codeIn K cd17 "told_optimal" = true)
    (k17 : PySem.W.keepIn K (.ref f17) = true)
    (a18 : PySem.W.nsIn K mainGlobals "optimal_configuration" = some (some (.ref f18)))
    (l18 : K.lookup f18 = some ⟨oc18, od18, .func (PySem.W.fnOf "optimal_configuration" "optimal_configuration" (defArgs s_optimal_configuration) (defBody s_optimal_configuration) (defScope s_optimal_configuration) .none kV18 dc18 pm18 an18 cd18 ct18), sl18⟩)
    (c18 : PySem.W.codeIn K cd18 "optimal_configuration" = true)
    (k18 : PySem.W.keepIn K (.ref f18) = true)
    (z0 : PySem.W.nsIn K mainGlobals "OUT_OF_LIMITS" = some (some (.int (-22) t0)))
    (z1 : PySem.W.nsIn K mainGlobals "MOST_VERTICES" = some (some (.int 5 t1)))
    (b_len : PySem.W.nsIn K mainGlobals "len" = some none)
    (b_range : PySem.W.nsIn K mainGlobals "range" = some none)
    (b_zip : PySem.W.nsIn K mainGlobals "zip" = some none)
    (b_all : PySem.W.nsIn K mainGlobals "all" = some none)
    (b_any : PySem.W.nsIn K mainGlobals "any" = some none)
    (b_sum : PySem.W.nsIn K mainGlobals "sum" = some none)
    (b_tuple : PySem.W.nsIn K mainGlobals "tuple" = some none)
    (b_list : PySem.W.nsIn K mainGlobals "list" = some none)
    (b_max : PySem.W.nsIn K mainGlobals "max" = some none)
    (b_enumerate : PySem.W.nsIn K mainGlobals "enumerate" = some none)
    : ∃ fd : FuncData, (∀ (s : Shared) (us : List Value), us.length = (["vertex_count", "edges"] : List Str).length → BindsTo s fd ⟨us, []⟩ ((["vertex_count", "edges"] : List Str).zip us)) ∧ ∀ base : Heap, K.In base → base.Ns mainGlobals mg → FnOk P w K mg base CX0 7 fa fd ["vertex_count", "edges"] (sp_optimal_configuration K) := by
  have e := hfa.symm.trans (PySem.W.mg_of X G a18)
  cases e
  have FI := fun_mk (st := s_init) xlI xcI xkI
  have bI := FI.binds (ps := ["self", "code"]) (fun _ _ _ _ _ _ us hl => match us, hl with | [_, _], _ => rfl)
  have T : RefTxt K mg C := ⟨⟨⟨nm, q, N, bs, _, sn, sub, ab, col, dd, m0, m1, m2, m3, m5, xL, by decide +kernel⟩, xsa, xeC, xtC, xkC⟩, PySem.W.mg_of X G aC, xnc, ⟨xga, xgg, xeC, xhC⟩, exm_self xeC xiC xtC xsC, PySem.W.mg_none_of X G xmV, xvV, ⟨fI, _, FI, bI, xI, xtI⟩⟩
  have B : Bi mg := ⟨PySem.W.mg_none_of X G b_len, PySem.W.mg_none_of X G b_range, PySem.W.mg_none_of X G b_zip, PySem.W.mg_none_of X G b_all, PySem.W.mg_none_of X G b_any, PySem.W.mg_none_of X G b_sum, PySem.W.mg_none_of X G b_tuple, PySem.W.mg_none_of X G b_list, PySem.W.mg_none_of X G b_max, PySem.W.mg_none_of X G b_enumerate⟩
  have C_OUT_OF_LIMITS : ConAt mg "OUT_OF_LIMITS" (-22) := ⟨_, PySem.W.mg_of X G z0⟩
  have C_MOST_VERTICES : ConAt mg "MOST_VERTICES" 5 := ⟨_, PySem.W.mg_of X G z1⟩
  have D_rubbling_moves : DefAt K mg "rubbling_moves" s_rubbling_moves ["graph"] := def_mk X G a0 l0 c0 k0 fun _ _ _ _ _ _ us hl => match us, hl with | [_], _ => rfl
  have D_has_pebbles : DefAt K mg "has_pebbles" s_has_pebbles ["configuration", "move"] := def_mk X G a1 l1 c1 k1 fun _ _ _ _ _ _ us hl => match us, hl with | [_, _], _ => rfl
  have D_moved : DefAt K mg "moved" s_moved ["configuration", "move"] := def_mk X G a2 l2 c2 k2 fun _ _ _ _ _ _ us hl => match us, hl with | [_, _], _ => rfl
  have D_all_behind : DefAt K mg "all_behind" s_all_behind ["configuration", "moves"] := def_mk X G a3 l3 c3 k3 fun _ _ _ _ _ _ us hl => match us, hl with | [_, _], _ => rfl
  have D_longer_rows : DefAt K mg "longer_rows" s_longer_rows ["rows"] := def_mk X G a4 l4 c4 k4 fun _ _ _ _ _ _ us hl => match us, hl with | [_], _ => rfl
  have D_configurations : DefAt K mg "configurations" s_configurations ["vertex_count", "many"] := def_mk X G a5 l5 c5 k5 fun _ _ _ _ _ _ us hl => match us, hl with | [_, _], _ => rfl
  have D_reach_of : DefAt K mg "reach_of" s_reach_of ["configuration", "moves", "before"] := def_mk X G a6 l6 c6 k6 fun _ _ _ _ _ _ us hl => match us, hl with | [_, _, _], _ => rfl
  have D_all_reaches : DefAt K mg "all_reaches" s_all_reaches ["rows", "moves", "before"] := def_mk X G a7 l7 c7 k7 fun _ _ _ _ _ _ us hl => match us, hl with | [_, _, _], _ => rfl
  have D_first_complete : DefAt K mg "first_complete" s_first_complete ["rows", "reaches"] := def_mk X G a8 l8 c8 k8 fun _ _ _ _ _ _ us hl => match us, hl with | [_, _], _ => rfl
  have D_optimal : DefAt K mg "optimal" s_optimal ["vertex_count", "moves"] := def_mk X G a9 l9 c9 k9 fun _ _ _ _ _ _ us hl => match us, hl with | [_, _], _ => rfl
  have D_want : DefAt K mg "want" s_want ["truth", "code"] := def_mk X G a10 l10 c10 k10 fun _ _ _ _ _ _ us hl => match us, hl with | [_, _], _ => rfl
  have D_pairs_of : DefAt K mg "pairs_of" s_pairs_of ["numbers"] := def_mk X G a11 l11 c11 k11 fun _ _ _ _ _ _ us hl => match us, hl with | [_], _ => rfl
  have D_is_rising : DefAt K mg "is_rising" s_is_rising ["pairs"] := def_mk X G a12 l12 c12 k12 fun _ _ _ _ _ _ us hl => match us, hl with | [_], _ => rfl
  have D_are_edges : DefAt K mg "are_edges" s_are_edges ["vertex_count", "numbers"] := def_mk X G a13 l13 c13 k13 fun _ _ _ _ _ _ us hl => match us, hl with | [_, _], _ => rfl
  have D_are_adjacent : DefAt K mg "are_adjacent" s_are_adjacent ["pairs", "vertex", "other"] := def_mk X G a14 l14 c14 k14 fun _ _ _ _ _ _ us hl => match us, hl with | [_, _, _], _ => rfl
  have D_neighbours : DefAt K mg "neighbours" s_neighbours ["vertex_count", "pairs", "vertex"] := def_mk X G a15 l15 c15 k15 fun _ _ _ _ _ _ us hl => match us, hl with | [_, _, _], _ => rfl
  have D_read_graph : DefAt K mg "read_graph" s_read_graph ["vertex_count", "edges"] := def_mk X G a16 l16 c16 k16 fun _ _ _ _ _ _ us hl => match us, hl with | [_, _], _ => rfl
  have D_told_optimal : DefAt K mg "told_optimal" s_told_optimal ["vertex_count", "edges"] := def_mk X G a17 l17 c17 k17 fun _ _ _ _ _ _ us hl => match us, hl with | [_, _], _ => rfl
  refine ⟨PySem.W.fnOf "optimal_configuration" "optimal_configuration" (defArgs s_optimal_configuration) (defBody s_optimal_configuration) (defScope s_optimal_configuration) .none kV18 dc18 pm18 an18 cd18 ct18, fun s us hu => match us, hu with | [_, _], _ => .of_eq rfl, fun base _ _ => ?_⟩
  have H_want : Has P w K mg base (L2.CX P w) 3 "want" ["truth", "code"] (sp_want C) := ok_want D_want T
  have H_pairs_of : Has P w K mg base CX0 1 "pairs_of" ["numbers"] (sp_pairs_of K) := ok_pairs_of D_pairs_of B
  have H_is_rising : Has P w K mg base CX0 1 "is_rising" ["pairs"] sp_is_rising := ok_is_rising D_is_rising B
  have H_are_edges : Has P w K mg base CX0 2 "are_edges" ["vertex_count", "numbers"] (sp_are_edges K) := ok_are_edges D_are_edges B H_pairs_of H_is_rising
  have H_are_adjacent : Has P w K mg base CX0 1 "are_adjacent" ["pairs", "vertex", "other"] sp_are_adjacent := ok_are_adjacent D_are_adjacent
  have H_neighbours : Has P w K mg base CX0 2 "neighbours" ["vertex_count", "pairs", "vertex"] sp_neighbours := ok_neighbours D_neighbours B H_are_adjacent
  have H_read_graph : Has P w K mg base (L2.CX P w) 4 "read_graph" ["vertex_count", "edges"] (sp_read_graph K C) := ok_read_graph D_read_graph B C_MOST_VERTICES C_OUT_OF_LIMITS H_want H_are_edges H_pairs_of H_neighbours
  have H_longer_rows : Has P w K mg base CX0 1 "longer_rows" ["rows"] sp_longer_rows := ok_longer_rows D_longer_rows B
  have H_configurations : Has P w K mg base CX0 2 "configurations" ["vertex_count", "many"] sp_configurations := ok_configurations D_configurations B H_longer_rows
  have H_has_pebbles : Has P w K mg base CX0 1 "has_pebbles" ["configuration", "move"] sp_has_pebbles := ok_has_pebbles D_has_pebbles
  have H_moved : Has P w K mg base CX0 1 "moved" ["configuration", "move"] sp_moved := ok_moved D_moved B
  have H_all_behind : Has P w K mg base CX0 2 "all_behind" ["configuration", "moves"] sp_all_behind := ok_all_behind D_all_behind H_has_pebbles H_moved
  have H_reach_of : Has P w K mg base CX0 3 "reach_of" ["configuration", "moves", "before"] sp_reach_of := ok_reach_of D_reach_of B H_all_behind
  have H_all_reaches : Has P w K mg base CX0 4 "all_reaches" ["rows", "moves", "before"] sp_all_reaches := ok_all_reaches D_all_reaches H_reach_of
  have H_first_complete : Has P w K mg base CX0 1 "first_complete" ["rows", "reaches"] sp_first_complete := ok_first_complete D_first_complete B
  have H_optimal : Has P w K mg base CX0 5 "optimal" ["vertex_count", "moves"] sp_optimal := ok_optimal D_optimal B H_configurations H_all_reaches H_first_complete
  have H_rubbling_moves : Has P w K mg base CX0 1 "rubbling_moves" ["graph"] sp_rubbling_moves := ok_rubbling_moves D_rubbling_moves B
  have H_told_optimal : Has P w K mg base (L2.CX P w) 6 "told_optimal" ["vertex_count", "edges"] (sp_told_optimal K C) := ok_told_optimal D_told_optimal B H_read_graph H_optimal H_rubbling_moves
  have F_optimal_configuration := fun_mk (st := s_optimal_configuration) l18 c18 k18
  exact ok_optimal_configuration F_optimal_configuration T H_told_optimal
end
end RW
open PySem PySem.W PyProof.Rows
set_option maxRecDepth 100000 in
set_option maxHeartbeats 8000000 in
theorem PySem.Challenge.cw_neighbourpairs_s05_optimal_configuration_holds : PySem.Challenge.rw_neighbourpairs_s05_optimal_configuration.Holds := by
  w_on; k_headS; (case hw => exact ⟨[.int 0, .list []], by decide +kernel, by decide +kernel⟩)
  k_fillS
  refine L2.walk_specK (r := PySem.Challenge.rw_neighbourpairs_s05_optimal_configuration) (k := 7) (CX := L2.CX0) (ps := ["vertex_count", "edges"]) (sp := RW.sp_optimal_configuration) (by decide +kernel) rfl rfl ⟨rfl, by decide, by decide⟩ (fun w h Y => PySem.W.kIn_of Y) ?F ?S (fun _ _ _ _ z => z)
  case F =>
    intro w mg fa h Y KX G hmg
    refine' RW.all_mk KX G hmg ?aC ?xL ?xsa ?xga ?xgg ?xnc ?xI ?xtI ?xlI ?xcI ?xkI ?xkC ?xeC ?xtC ?xhC ?xiC ?xsC ?xmV ?xvV ?a0 ?l0 ?c0 ?k0 ?a1 ?l1 ?c1 ?k1 ?a2 ?l2 ?c2 ?k2 ?a3 ?l3 ?c3 ?k3 ?a4 ?l4 ?c4 ?k4 ?a5 ?l5 ?c5 ?k5 ?a6 ?l6 ?c6 ?k6 ?a7 ?l7 ?c7 ?k7 ?a8 ?l8 ?c8 ?k8 ?a9 ?l9 ?c9 ?k9 ?a10 ?l10 ?c10 ?k10 ?a11 ?l11 ?c11 ?k11 ?a12 ?l12 ?c12 ?k12 ?a13 ?l13 ?c13 ?k13 ?a14 ?l14 ?c14 ?k14 ?a15 ?l15 ?c15 ?k15 ?a16 ?l16 ?c16 ?k16 ?a17 ?l17 ?c17 ?k17 ?a18 ?l18 ?c18 ?k18 ?z0 ?z1 ?b_len ?b_range ?b_zip ?b_all ?b_any ?b_sum ?b_tuple ?b_list ?b_max ?b_enumerate
    (case aC => k_is)
    (case xL => k_is)
    (case xsa => k_is)
    (case xga => k_is)
    (case xgg => k_is)
    (case xnc => k_is)
    (case xI => k_is)
    (case xtI => k_is)
    (case xlI => k_is)
    (case xcI => k_is)
    (case xkI => k_is)
    (case xkC => k_is)
    (case xeC => k_is)
    (case xtC => k_is)
    (case xhC => k_is)
    (case xiC => k_is)
    (case xsC => first | rfl | k_is)
    (case xmV => k_is)
    (case xvV => first | rfl | k_is)
    (case a0 => k_is)
    (case l0 => k_is)
    (case c0 => k_is)
    (case k0 => k_is)
    (case a1 => k_is)
    (case l1 => k_is)
    (case c1 => k_is)
    (case k1 => k_is)
    (case a2 => k_is)
    (case l2 => k_is)
    (case c2 => k_is)
    (case k2 => k_is)
    (case a3 => k_is)
    (case l3 => k_is)
    (case c3 => k_is)
    (case k3 => k_is)
    (case a4 => k_is)
    (case l4 => k_is)
    (case c4 => k_is)
    (case k4 => k_is)
    (case a5 => k_is)
    (case l5 => k_is)
    (case c5 => k_is)
    (case k5 => k_is)
    (case a6 => k_is)
    (case l6 => k_is)
    (case c6 => k_is)
    (case k6 => k_is)
    (case a7 => k_is)
    (case l7 => k_is)
    (case c7 => k_is)
    (case k7 => k_is)
    (case a8 => k_is)
    (case l8 => k_is)
    (case c8 => k_is)
    (case k8 => k_is)
    (case a9 => k_is)
    (case l9 => k_is)
    (case c9 => k_is)
    (case k9 => k_is)
    (case a10 => k_is)
    (case l10 => k_is)
    (case c10 => k_is)
    (case k10 => k_is)
    (case a11 => k_is)
    (case l11 => k_is)
    (case c11 => k_is)
    (case k11 => k_is)
    (case a12 => k_is)
    (case l12 => k_is)
    (case c12 => k_is)
    (case k12 => k_is)
    (case a13 => k_is)
    (case l13 => k_is)
    (case c13 => k_is)
    (case k13 => k_is)
    (case a14 => k_is)
    (case l14 => k_is)
    (case c14 => k_is)
    (case k14 => k_is)
    (case a15 => k_is)
    (case l15 => k_is)
    (case c15 => k_is)
    (case k15 => k_is)
    (case a16 => k_is)
    (case l16 => k_is)
    (case c16 => k_is)
    (case k16 => k_is)
    (case a17 => k_is)
    (case l17 => k_is)
    (case c17 => k_is)
    (case k17 => k_is)
    (case a18 => k_is)
    (case l18 => k_is)
    (case c18 => k_is)
    (case k18 => k_is)
    (case z0 => k_is)
    (case z1 => k_is)
    (case b_len => k_is)
    (case b_range => k_is)
    (case b_zip => k_is)
    (case b_all => k_is)
    (case b_any => k_is)
    (case b_sum => k_is)
    (case b_tuple => k_is)
    (case b_list => k_is)
    (case b_max => k_is)
    (case b_enumerate => k_is)
  case S =>
    intro K H xs a hO hwi hask hx
    obtain ⟨a0, a1, u⟩ := a
    have w0 := (Bool.and_eq_true_iff.mp hwi).1
    have w1 := (Bool.and_eq_true_iff.mp (Bool.and_eq_true_iff.mp hwi).2).1
    obtain ⟨n, e0⟩ := RW.nat_arg w0
    obtain ⟨es, e1, z1⟩ := RW.nats_arg w1
    have e0 : a0 = (n : Int) := e0
    have e1 : a1 = Rub.ofNats es := e1
    subst e0 e1
    obtain _ | ⟨h0, hx⟩ := hx
    obtain _ | ⟨h1, hx⟩ := hx
    cases hx
    obtain rfl := RW.dw_int h0
    obtain ⟨b1, rfl, s1⟩ := RW.dw_list h1
    refine ⟨n, b1, es, rfl, s1, by omega, fun p H' hp => ?_⟩
    rw [← Rub.opt_spec] at hp
    exact .lst (L2.SqL.of hp) (L2.dw_ints _)
#print axioms PySem.Challenge.cw_neighbourpairs_s05_optimal_configuration_holds
