import PyProof.Rows.All
import Wide.All
import OpenK.AllK
import Wide.FinOn
import PyProof.EqAt
import PyProof.EqKinds
import PyProof.TupleCall
import Open.SpecLaws
import KE.OsGo
import KE.KTupSum
import KE.GoesMore
import KE.GoesEnum
import HandS.ForSpec
import HandS.Comp
import HandS.Dict
import HandS.Iter
import HandS.Walk
import HandS.Conv
import HandS.Deep
import HandS.TupAny
import HandS.TupLen
import HandS.ExcInit
import HandS.ExcField
import PySem.Challenge.RW_neighbourpairs_s03_rubbling_number
set_option Elab.async false
set_option linter.all false
set_option maxRecDepth 100000
set_option maxHeartbeats 4000000
/-! The mirror: the program's functions as plain Lean functions; that what they read is what the specification reads. -/
namespace Rub
abbrev Cfg := List Nat
abbrev Mv := Nat × Nat × Nat
abbrev Gr := List (List Nat)

/-! ### edges -/
def edgesOf : List Nat → List (Nat × Nat)
  | u :: v :: r => (u, v) :: edgesOf r
  | _ => []
def ltP (p q : Nat × Nat) : Bool := decide (p.1 < q.1) || (p.1 == q.1 && decide (p.2 < q.2))
def isRising (ps : List (Nat × Nat)) : Bool := (ps.zip (ps.drop 1)).all fun x => ltP x.1 x.2
def inRange (n : Nat) (ps : List (Nat × Nat)) : Bool := ps.all fun p => decide (p.1 < p.2) && decide (p.2 < n)
def areEdges (n : Nat) (es : List Nat) : Bool := es.length % 2 == 0 && (inRange n (edgesOf es) && isRising (edgesOf es))
def adj (ps : List (Nat × Nat)) (v o : Nat) : Bool := ps.contains (v, o) || ps.contains (o, v)
def nbrs (n : Nat) (ps : List (Nat × Nat)) (v : Nat) : List Nat := (List.range n).filter fun o => adj ps v o
def graphOf (n : Nat) (ps : List (Nat × Nat)) : Gr := (List.range n).map fun v => nbrs n ps v
def graphOk (n : Nat) (es : List Nat) : Bool := (decide (1 ≤ n) && decide (n ≤ 5)) && areEdges n es

theorem rising_cons (p q : Nat × Nat) (r : List (Nat × Nat)) : isRising (p :: q :: r) = (ltP p q && isRising (q :: r)) := rfl
theorem rising_one (p : Nat × Nat) : isRising [p] = true := rfl
theorem parseEdges_eq (n : Nat) : ∀ es : List Nat, Ks577.parseEdges n es = if areEdges n es = true then some (edgesOf es) else none
  | [] => by simp [Ks577.parseEdges, areEdges, edgesOf, inRange, isRising]
  | [u] => by simp [Ks577.parseEdges, areEdges]
  | u :: v :: rest => by
    have ih := parseEdges_eq n rest
    unfold Ks577.parseEdges
    by_cases h1 : v ≤ u ∨ n ≤ v
    · rw [if_pos h1]
      have : areEdges n (u :: v :: rest) = false := by
        unfold areEdges
        have : inRange n (edgesOf (u :: v :: rest)) = false := by
          show ((decide (u < v) && decide (v < n)) && inRange n (edgesOf rest)) = false
          rcases h1 with h | h
          · rw [decide_eq_false (show ¬ u < v by omega)]; rfl
          · rw [decide_eq_false (show ¬ v < n by omega), Bool.and_false]; rfl
        rw [this, Bool.false_and, Bool.and_false]
      rw [this]; rfl
    · rw [if_neg h1, ih]
      have hin : inRange n (edgesOf (u :: v :: rest)) = inRange n (edgesOf rest) := by
        show ((decide (u < v) && decide (v < n)) && inRange n (edgesOf rest)) = _
        rw [decide_eq_true (show u < v by omega), decide_eq_true (show v < n by omega)]; rfl
      have hlen : (u :: v :: rest).length % 2 = rest.length % 2 := by
        show (rest.length + 1 + 1) % 2 = _
        omega
      by_cases h2 : areEdges n rest = true
      · rw [if_pos h2]
        have h2' := h2
        unfold areEdges at h2'
        rw [Bool.and_eq_true, Bool.and_eq_true] at h2'
        obtain ⟨a1, a2, a3⟩ := h2'
        have hE : areEdges n (u :: v :: rest) = isRising (edgesOf (u :: v :: rest)) := by
          unfold areEdges
          rw [hlen, hin, a1, a2]; rfl
        rw [hE]
        show (match edgesOf rest with
          | [] => some [(u, v)]
          | next :: _ => if u < next.1 ∨ (u = next.1 ∧ v < next.2) then some ((u, v) :: edgesOf rest) else none) = if isRising ((u, v) :: edgesOf rest) = true then some ((u, v) :: edgesOf rest) else none
        cases hp : edgesOf rest with
        | nil => rfl
        | cons q r =>
          rw [hp] at a3
          rw [rising_cons, a3, Bool.and_true]
          by_cases h3 : u < q.1 ∨ (u = q.1 ∧ v < q.2)
          · have : ltP (u, v) q = true := by
              unfold ltP
              rcases h3 with h | ⟨h, h'⟩
              · simp [h]
              · simp [h, h']
            rw [this]; simp [h3]
          · have : ltP (u, v) q = false := by
              unfold ltP
              have : ¬ u < q.1 := fun h => h3 (.inl h)
              by_cases e : u = q.1
              · have : ¬ v < q.2 := fun h => h3 (.inr ⟨e, h⟩)
                simp; omega
              · simp [e]; omega
            rw [this]; simp [h3]
      · rw [if_neg h2]
        have : areEdges n (u :: v :: rest) = false := by
          have h2' : areEdges n rest = false := by simpa using h2
          unfold areEdges at h2' ⊢
          rw [hlen, hin]
          rw [Bool.and_eq_false_iff] at h2'
          rcases h2' with h | h
          · rw [h]; rfl
          · rw [Bool.and_eq_false_iff] at h
            rcases h with h | h
            · rw [h]; simp
            · have : isRising (edgesOf (u :: v :: rest)) = false := by
                show isRising ((u, v) :: edgesOf rest) = false
                cases hp : edgesOf rest with
                | nil => rw [hp] at h; exact absurd h (by decide)
                | cons q r => rw [hp] at h; rw [rising_cons, h, Bool.and_false]
              rw [this]; simp
        rw [this]; rfl
theorem parseGraph_eq (n : Nat) (es : List Nat) : Ks577.parseGraph n es = if graphOk n es = true then some ⟨n, edgesOf es⟩ else none := by
  unfold Ks577.parseGraph graphOk
  by_cases h : n < 1 ∨ Ks577.maxVertices < n
  · rw [if_pos h]
    have : (decide (1 ≤ n) && decide (n ≤ 5)) = false := by
      unfold Ks577.maxVertices at h
      rcases h with h | h
      · rw [decide_eq_false (by omega)]; rfl
      · rw [decide_eq_false (show ¬ n ≤ 5 by omega), Bool.and_false]
    rw [this]; rfl
  · rw [if_neg h, parseEdges_eq]
    unfold Ks577.maxVertices at h
    rw [decide_eq_true (show 1 ≤ n by omega), decide_eq_true (show n ≤ 5 by omega)]
    cases areEdges n es <;> rfl
theorem graphOk_le {n : Nat} {es : List Nat} (h : graphOk n es = true) : 1 ≤ n ∧ n ≤ 5 := by
  unfold graphOk at h
  simp only [Bool.and_eq_true, decide_eq_true_eq] at h
  exact h.1
theorem isAdjacent_iff {n : Nat} {ps : List (Nat × Nat)} {u v : Nat} : Ks577.isAdjacent ⟨n, ps⟩ u v = adj ps u v := by
  rw [Bool.eq_iff_iff]
  unfold Ks577.isAdjacent adj
  simp only [List.any_eq_true, Bool.or_eq_true, Bool.and_eq_true, beq_iff_eq, List.contains_eq_mem, decide_eq_true_eq]
  constructor
  · rintro ⟨⟨a, b⟩, hm, ⟨h1, h2⟩ | ⟨h1, h2⟩⟩
    · exact .inl (by rw [← h1, ← h2]; exact hm)
    · exact .inr (by rw [← h1, ← h2]; exact hm)
  · rintro (h | h)
    · exact ⟨_, h, .inl ⟨rfl, rfl⟩⟩
    · exact ⟨_, h, .inr ⟨rfl, rfl⟩⟩
theorem adj_comm (ps : List (Nat × Nat)) (u v : Nat) : adj ps u v = adj ps v u := by
  unfold adj
  exact Bool.or_comm _ _
theorem mem_nbrs {n : Nat} {ps : List (Nat × Nat)} {v o : Nat} : o ∈ nbrs n ps v ↔ o < n ∧ adj ps v o = true := by
  unfold nbrs
  rw [List.mem_filter, List.mem_range]
theorem graphOf_length (n : Nat) (ps : List (Nat × Nat)) : (graphOf n ps).length = n := by simp [graphOf]
theorem graphOf_get {n : Nat} {ps : List (Nat × Nat)} {v : Nat} (h : v < n) : (graphOf n ps)[v]? = some (nbrs n ps v) := by
  simp [graphOf, h]

/-! ### moves -/
def hasP (c : Cfg) (m : Mv) : Bool := if m.1 = m.2.1 then decide (2 ≤ Ks577.pebblesAt c m.1) else decide (1 ≤ Ks577.pebblesAt c m.1) && decide (1 ≤ Ks577.pebblesAt c m.2.1)
def mvd (c : Cfg) (m : Mv) : Cfg := Ks581.move c m.1 m.2.1 m.2.2
def movesAt (near : List Nat) (t : Nat) : List Mv := near.flatMap fun f => (near.filter fun s => decide (f ≤ s)).map fun s => (f, s, t)
def rubMoves (gr : Gr) : List Mv := gr.zipIdx.flatMap fun p => movesAt p.1 p.2
def pebMoves (gr : Gr) : List Mv := (rubMoves gr).filter fun m => m.1 == m.2.1
def allBehind (c : Cfg) (ms : List Mv) : List Cfg := (ms.filter fun m => hasP c m).map fun m => mvd c m

theorem mem_movesAt {near : List Nat} {t : Nat} {m : Mv} : m ∈ movesAt near t ↔ m.1 ∈ near ∧ m.2.1 ∈ near ∧ m.1 ≤ m.2.1 ∧ m.2.2 = t := by
  obtain ⟨f, s, t'⟩ := m
  unfold movesAt
  simp only [List.mem_flatMap, List.mem_map, List.mem_filter, decide_eq_true_eq, Prod.mk.injEq]
  constructor
  · rintro ⟨a, ha, b, ⟨hb, hle⟩, h1, h2, h3⟩
    subst h1 h2 h3
    exact ⟨ha, hb, hle, rfl⟩
  · rintro ⟨h1, h2, h3, h4⟩
    exact ⟨f, h1, s, ⟨h2, h3⟩, rfl, rfl, h4.symm⟩
theorem mem_zipIdx_of {α : Type} {l : List α} {i : Nat} {x : α} : (x, i) ∈ l.zipIdx ↔ l[i]? = some x := by
  rw [List.mem_zipIdx_iff_getElem?]
theorem mem_rubMoves {n : Nat} {ps : List (Nat × Nat)} {m : Mv} : m ∈ rubMoves (graphOf n ps) ↔ m.2.2 < n ∧ m.1 < n ∧ m.2.1 < n ∧ m.1 ≤ m.2.1 ∧ adj ps m.2.2 m.1 = true ∧ adj ps m.2.2 m.2.1 = true := by
  unfold rubMoves
  rw [List.mem_flatMap]
  constructor
  · rintro ⟨⟨near, t⟩, hm, h⟩
    rw [mem_zipIdx_of] at hm
    have ht : t < n := by
      have := (List.getElem?_eq_some_iff.mp hm).1
      rwa [graphOf_length] at this
    rw [graphOf_get ht] at hm
    have e : nbrs n ps t = near := Option.some.inj hm
    subst e
    obtain ⟨h1, h2, h3, h4⟩ := mem_movesAt.mp h
    rw [mem_nbrs] at h1 h2
    have h4' : m.2.2 = t := h4
    rw [h4']
    exact ⟨ht, h1.1, h2.1, h3, h1.2, h2.2⟩
  · rintro ⟨ht, hf, hs, hle, a1, a2⟩
    refine ⟨(nbrs n ps m.2.2, m.2.2), ?_, ?_⟩
    · rw [mem_zipIdx_of, graphOf_get ht]
    · exact mem_movesAt.mpr ⟨mem_nbrs.mpr ⟨hf, a1⟩, mem_nbrs.mpr ⟨hs, a2⟩, hle, rfl⟩
/-- what the specification calls a successor -/
theorem mem_behind {n : Nat} {ps : List (Nat × Nat)} {c d : Cfg} : d ∈ allBehind c (rubMoves (graphOf n ps)) ↔ d ∈ Ks581.successors ⟨n, ps⟩ c := by
  unfold allBehind Ks581.successors Ks581.possibleMoves
  simp only [List.mem_map, List.mem_filter, List.mem_flatMap, List.mem_range, Bool.and_eq_true, decide_eq_true_eq]
  constructor
  · rintro ⟨⟨f, s, t⟩, ⟨hm, hp⟩, rfl⟩
    obtain ⟨ht, hf, hs, hle, a1, a2⟩ := mem_rubMoves.mp hm
    refine ⟨(f, s, t), ⟨f, hf, s, hs, t, ⟨ht, hle, ?_⟩, rfl⟩, rfl⟩
    unfold Ks581.canMove
    rw [isAdjacent_iff, isAdjacent_iff, adj_comm ps f t, adj_comm ps s t]
    rw [show adj ps t f = true from a1, show adj ps t s = true from a2]
    exact hp
  · rintro ⟨⟨f, s, t⟩, ⟨f', hf, s', hs, t', ⟨ht, hle, hc⟩, e⟩, rfl⟩
    cases e
    refine ⟨(f, s, t), ⟨mem_rubMoves.mpr ⟨ht, hf, hs, hle, ?_, ?_⟩, ?_⟩, rfl⟩
    all_goals
      unfold Ks581.canMove at hc
      rw [isAdjacent_iff, isAdjacent_iff, adj_comm ps f t, adj_comm ps s t, Bool.and_eq_true, Bool.and_eq_true] at hc
    · exact hc.1.1
    · exact hc.1.2
    · exact hc.2
theorem move_length (c : Cfg) (f s t : Nat) : (Ks581.move c f s t).length = c.length := by
  simp [Ks581.move, Ks581.removeOne]
theorem mvd_length (c : Cfg) (m : Mv) : (mvd c m).length = c.length := move_length ..
end Rub
/-! Levels: what min_moves and max_pebbles_at compute is what the specification tells. -/
namespace Rub
def addNew (acc : List Cfg) (x : Cfg) : List Cfg := if x ∈ acc then acc else acc ++ [x]
def dedup (l : List Cfg) : List Cfg := l.foldl addNew []
theorem mem_addNew {acc : List Cfg} {x y : Cfg} : y ∈ addNew acc x ↔ y ∈ acc ∨ y = x := by
  unfold addNew
  split
  · rename_i h
    constructor
    · exact .inl
    · rintro (h' | rfl) <;> assumption
  · simp
theorem mem_foldl_addNew {y : Cfg} : ∀ (l acc : List Cfg), y ∈ l.foldl addNew acc ↔ y ∈ acc ∨ y ∈ l
  | [], acc => by simp
  | x :: l, acc => by
    rw [List.foldl_cons, mem_foldl_addNew l, mem_addNew, List.mem_cons, or_assoc]
theorem mem_dedup {l : List Cfg} {y : Cfg} : y ∈ dedup l ↔ y ∈ l := by
  unfold dedup
  rw [mem_foldl_addNew]
  simp
def nextLevel (level : List Cfg) (ms : List Mv) : List Cfg := dedup (level.flatMap fun c => allBehind c ms)
def lev (ms : List Mv) (s : Cfg) : Nat → List Cfg
  | 0 => [s]
  | i + 1 => nextLevel (lev ms s i) ms
def allLevels (s : Cfg) (ms : List Mv) : List (List Cfg) := (List.range (s.sum + 1)).map (lev ms s)
def hasLevel (t count : Nat) (level : List Cfg) : Bool := level.any fun c => decide (count ≤ Ks577.pebblesAt c t)
def leastMoves (levels : List (List Cfg)) (t count : Nat) : Option Nat := levels.findIdx? (hasLevel t count)
def bestOf (t : Nat) (best : Nat) (level : List Cfg) : Nat := (level.map fun c => Ks577.pebblesAt c t).foldl max best
def mostPebbles (levels : List (List Cfg)) (t : Nat) : Nat := levels.foldl (bestOf t) 0

theorem any_congr_mem {α : Type} {l l' : List α} {p : α → Bool} (h : ∀ x, x ∈ l ↔ x ∈ l') : l.any p = l'.any p := by
  rw [Bool.eq_iff_iff, List.any_eq_true, List.any_eq_true]
  constructor
  · rintro ⟨x, hx, hp⟩; exact ⟨x, (h x).mp hx, hp⟩
  · rintro ⟨x, hx, hp⟩; exact ⟨x, (h x).mpr hx, hp⟩
theorem range_succ_map {α : Type} (M : Nat → α) (n : Nat) : (List.range (n + 1)).map M = M 0 :: (List.range n).map (fun i => M (i + 1)) := by
  rw [List.range_succ_eq_map, List.map_cons, List.map_map]
  rfl
/-- levels with the same members -/
theorem levels_find {g : Ks577.Graph} {q : Cfg → Bool} : ∀ (fuel : Nat) (L : List Cfg) (M : Nat → List Cfg), (∀ d, d ∈ M 0 ↔ d ∈ L) → (∀ i d, d ∈ M (i + 1) ↔ ∃ c ∈ M i, d ∈ Ks581.successors g c) →
    ((List.range fuel).map M).findIdx? (fun l => l.any q) = (Ks581.levelsFrom g L fuel).findIdx? (fun l => l.any q)
  | 0, L, M, h0, hs => rfl
  | fuel + 1, L, M, h0, hs => by
    rw [range_succ_map]
    unfold Ks581.levelsFrom
    by_cases hL : L.isEmpty = true
    · rw [if_pos hL]
      have eL : L = [] := List.isEmpty_iff.mp hL
      subst eL
      have hM : ∀ i d, d ∉ M i := by
        intro i
        induction i with
        | zero => intro d hd; exact absurd ((h0 d).mp hd) (by simp)
        | succ i ih =>
          intro d hd
          obtain ⟨c, hc, _⟩ := (hs i d).mp hd
          exact ih c hc
      have hn : ∀ i, M i = [] := fun i => List.eq_nil_iff_forall_not_mem.mpr (hM i)
      rw [List.findIdx?_eq_none_iff.mpr]
      · rfl
      · intro x hx
        rcases List.mem_cons.mp hx with e | hx
        · rw [e, hn]; rfl
        · obtain ⟨i, _, e⟩ := List.mem_map.mp hx
          rw [← e, hn]; rfl
    · rw [if_neg hL, List.findIdx?_cons, List.findIdx?_cons, any_congr_mem h0]
      have ih := levels_find (g := g) (q := q) fuel ((L.flatMap (Ks581.successors g)).eraseDups) (fun i => M (i + 1)) (fun d => by
        rw [hs 0 d, List.mem_eraseDups, List.mem_flatMap]
        constructor
        · rintro ⟨c, hc, hd⟩; exact ⟨c, (h0 c).mp hc, hd⟩
        · rintro ⟨c, hc, hd⟩; exact ⟨c, (h0 c).mpr hc, hd⟩) (fun i d => hs (i + 1) d)
      rw [ih]
theorem lev_succ {n : Nat} {ps : List (Nat × Nat)} {s : Cfg} (i : Nat) (d : Cfg) : d ∈ lev (rubMoves (graphOf n ps)) s (i + 1) ↔ ∃ c ∈ lev (rubMoves (graphOf n ps)) s i, d ∈ Ks581.successors ⟨n, ps⟩ c := by
  show d ∈ nextLevel _ _ ↔ _
  unfold nextLevel
  rw [mem_dedup, List.mem_flatMap]
  constructor
  · rintro ⟨c, hc, hd⟩; exact ⟨c, hc, mem_behind.mp hd⟩
  · rintro ⟨c, hc, hd⟩; exact ⟨c, hc, mem_behind.mpr hd⟩
theorem least_is {n : Nat} {ps : List (Nat × Nat)} {s : Cfg} {t count : Nat} : leastMoves (allLevels s (rubMoves (graphOf n ps))) t count = Ks581.minMoves ⟨n, ps⟩ s t count := by
  unfold leastMoves allLevels Ks581.minMoves Ks581.levels
  exact levels_find (s.sum + 1) [s] _ (fun d => Iff.rfl) (fun i d => lev_succ i d)

/-! ### the most -/
theorem foldl_max_spec : ∀ (l : List Nat) (b : Nat), (b ≤ l.foldl max b) ∧ (∀ x ∈ l, x ≤ l.foldl max b) ∧ (l.foldl max b = b ∨ l.foldl max b ∈ l)
  | [], b => ⟨Nat.le_refl _, fun x hx => absurd hx (by simp), .inl rfl⟩
  | a :: l, b => by
    obtain ⟨h1, h2, h3⟩ := foldl_max_spec l (max b a)
    rw [List.foldl_cons]
    refine ⟨Nat.le_trans (Nat.le_max_left _ _) h1, fun x hx => ?_, ?_⟩
    · rcases List.mem_cons.mp hx with rfl | hx
      · exact Nat.le_trans (Nat.le_max_right _ _) h1
      · exact h2 x hx
    · rcases h3 with h | h
      · rw [h]
        rcases Nat.le_total b a with e | e
        · rw [Nat.max_eq_right e]; exact .inr (List.mem_cons_self ..)
        · rw [Nat.max_eq_left e]; exact .inl rfl
      · exact .inr (List.mem_cons_of_mem _ h)
theorem foldl_max_unique {l : List Nat} {b m : Nat} (h1 : b ≤ m) (h2 : ∀ x ∈ l, x ≤ m) (h3 : m = b ∨ m ∈ l) : l.foldl max b = m := by
  obtain ⟨a1, a2, a3⟩ := foldl_max_spec l b
  apply Nat.le_antisymm
  · rcases a3 with h | h
    · rw [h]; exact h1
    · exact h2 _ h
  · rcases h3 with h | h
    · rw [h]; exact a1
    · exact a2 _ h
theorem foldl_max_congr {l l' : List Nat} (h : ∀ x, x ∈ l ↔ x ∈ l') : l.foldl max 0 = l'.foldl max 0 := by
  obtain ⟨a1, a2, a3⟩ := foldl_max_spec l' 0
  exact foldl_max_unique a1 (fun x hx => a2 x ((h x).mp hx)) (a3.imp id fun z => (h _).mpr z)
theorem most_flat : ∀ (levels : List (List Cfg)) (t b : Nat), levels.foldl (bestOf t) b = (levels.flatMap fun level => level.map fun d => Ks577.pebblesAt d t).foldl max b
  | [], t, b => rfl
  | L :: r, t, b => by
    rw [List.foldl_cons, most_flat r, List.flatMap_cons, List.foldl_append]
    rfl
/-- the members of the specification's levels -/
theorem levels_mem {g : Ks577.Graph} : ∀ (fuel : Nat) (L : List Cfg) (M : Nat → List Cfg), (∀ d, d ∈ M 0 ↔ d ∈ L) → (∀ i d, d ∈ M (i + 1) ↔ ∃ c ∈ M i, d ∈ Ks581.successors g c) →
    ∀ d, (∃ l ∈ (List.range fuel).map M, d ∈ l) ↔ ∃ l ∈ Ks581.levelsFrom g L fuel, d ∈ l
  | 0, L, M, h0, hs, d => Iff.rfl
  | fuel + 1, L, M, h0, hs, d => by
    rw [range_succ_map]
    unfold Ks581.levelsFrom
    by_cases hL : L.isEmpty = true
    · rw [if_pos hL]
      have eL : L = [] := List.isEmpty_iff.mp hL
      subst eL
      have hM : ∀ i d, d ∉ M i := by
        intro i
        induction i with
        | zero => intro d hd; exact absurd ((h0 d).mp hd) (by simp)
        | succ i ih =>
          intro d hd
          obtain ⟨c, hc, _⟩ := (hs i d).mp hd
          exact ih c hc
      constructor
      · rintro ⟨l, hl, hd⟩
        rcases List.mem_cons.mp hl with e | hl
        · rw [e] at hd; exact absurd hd (hM 0 d)
        · obtain ⟨i, _, e⟩ := List.mem_map.mp hl
          rw [← e] at hd; exact absurd hd (hM _ d)
      · rintro ⟨l, hl, hd⟩
        exact absurd hl (by simp)
    · rw [if_neg hL]
      have ih := levels_mem (g := g) fuel ((L.flatMap (Ks581.successors g)).eraseDups) (fun i => M (i + 1)) (fun d => by
        rw [hs 0 d, List.mem_eraseDups, List.mem_flatMap]
        constructor
        · rintro ⟨c, hc, hd⟩; exact ⟨c, (h0 c).mp hc, hd⟩
        · rintro ⟨c, hc, hd⟩; exact ⟨c, (h0 c).mpr hc, hd⟩) (fun i d => hs (i + 1) d) d
      simp only [List.mem_cons, exists_eq_or_imp]
      rw [h0 d, ih]
theorem most_is {n : Nat} {ps : List (Nat × Nat)} {s : Cfg} {t : Nat} : mostPebbles (allLevels s (rubMoves (graphOf n ps))) t = Ks581.maxPebblesAt ⟨n, ps⟩ s t := by
  unfold mostPebbles Ks581.maxPebblesAt
  rw [most_flat]
  refine foldl_max_congr fun x => ?_
  have key := levels_mem (g := ⟨n, ps⟩) (s.sum + 1) [s] (lev (rubMoves (graphOf n ps)) s) (fun d => Iff.rfl) (fun i d => lev_succ i d)
  simp only [List.mem_flatMap, List.mem_map]
  unfold Ks581.levels allLevels
  constructor
  · rintro ⟨l, hl, d, hd, e⟩
    obtain ⟨l', hl', hd'⟩ := (key d).mp ⟨l, hl, hd⟩
    exact ⟨l', hl', d, hd', e⟩
  · rintro ⟨l, hl, d, hd, e⟩
    obtain ⟨l', hl', hd'⟩ := (key d).mpr ⟨l, hl, hd⟩
    exact ⟨l', hl', d, hd', e⟩

/-! ### the answers -/
def cfgOk (n : Nat) (pb : List Nat) : Bool := pb.length == n && decide (pb.sum ≤ 12)
def minMovesL (n t count : Nat) (es pb : List Nat) : List Int :=
  if graphOk n es = true then
    if cfgOk n pb = true then
      if t < n then
        match leastMoves (allLevels pb (rubMoves (graphOf n (edgesOf es)))) t count with
        | some k => [(k : Int)]
        | none => [-33]
      else [-2]
    else [-22]
  else [-22]
def maxPebL (n t : Nat) (es pb : List Nat) : List Int :=
  if graphOk n es = true then
    if cfgOk n pb = true then
      if t < n then [(mostPebbles (allLevels pb (rubMoves (graphOf n (edgesOf es)))) t : Int)] else [-2]
    else [-22]
  else [-22]
def ofNats (l : List Nat) : List Int := l.map Int.ofNat
theorem toNat_ofNats (l : List Nat) : (ofNats l).map Int.toNat = l := by
  unfold ofNats
  rw [List.map_map]
  conv => rhs; rw [← List.map_id l]
  rfl
theorem numberI (v : Int) : Ks581Neutral.integers (Ks581.number v) = [v] := rfl
theorem min_spec (n t count : Nat) (es pb : List Nat) : PyKs581.min_moves n t count (ofNats es) (ofNats pb) = minMovesL n t count es pb := by
  show Ks581Neutral.integers (Ks581.answer (.minMoves n t count ((ofNats es).map Int.toNat) ((ofNats pb).map Int.toNat))) = _
  rw [toNat_ofNats, toNat_ofNats]
  unfold Ks581.answer Ks577.withConfiguration Ks577.withGraph minMovesL
  simp only []
  rw [parseGraph_eq]
  by_cases hg : graphOk n es = true
  · rw [if_pos hg, if_pos hg]
    simp only []
    have e : Ks577.isValidConfiguration ⟨n, edgesOf es⟩ pb = cfgOk n pb := rfl
    rw [e]
    by_cases hc : cfgOk n pb = true
    · rw [if_pos hc, if_pos hc]
      by_cases ht : t < n
      · rw [if_pos ht, if_neg (by omega), least_is]
        cases Ks581.minMoves ⟨n, edgesOf es⟩ pb t count <;> rfl
      · rw [if_neg ht, if_pos (by omega)]; rfl
    · rw [if_neg hc, if_neg hc]; rfl
  · rw [if_neg hg, if_neg hg]; rfl
theorem max_spec (n t : Nat) (es pb : List Nat) : PyKs581.max_pebbles_at n t (ofNats es) (ofNats pb) = maxPebL n t es pb := by
  show Ks581Neutral.integers (Ks581.answer (.maxPebblesAt n t ((ofNats es).map Int.toNat) ((ofNats pb).map Int.toNat))) = _
  rw [toNat_ofNats, toNat_ofNats]
  unfold Ks581.answer Ks577.withConfiguration Ks577.withGraph maxPebL
  simp only []
  rw [parseGraph_eq]
  by_cases hg : graphOk n es = true
  · rw [if_pos hg, if_pos hg]
    simp only []
    have e : Ks577.isValidConfiguration ⟨n, edgesOf es⟩ pb = cfgOk n pb := rfl
    rw [e]
    by_cases hc : cfgOk n pb = true
    · rw [if_pos hc, if_pos hc]
      by_cases ht : t < n
      · rw [if_pos ht, if_neg (by omega), most_is]; rfl
      · rw [if_neg ht, if_pos (by omega)]; rfl
    · rw [if_neg hc, if_neg hc]; rfl
  · rw [if_neg hg, if_neg hg]; rfl
end Rub
/-! What apply_moves computes is what the specification tells. -/
namespace Rub
def movesOf : List Nat → List Mv
  | a :: b :: c :: r => (a, b, c) :: movesOf r
  | _ => []
def possible (gr : Gr) (c : Cfg) (m : Mv) : Bool := (gr.getD m.2.2 []).contains m.1 && ((gr.getD m.2.2 []).contains m.2.1 && hasP c m)
def performed (gr : Gr) : Cfg → List Mv → Nat × Cfg
  | c, [] => (0, c)
  | c, m :: r => if possible gr c m = true then ((performed gr (mvd c m) r).1 + 1, (performed gr (mvd c m) r).2) else (0, c)
theorem performed_len (gr : Gr) : ∀ (ms : List Mv) (c : Cfg), (performed gr c ms).2.length = c.length
  | [], c => rfl
  | m :: r, c => by
    unfold performed
    split
    · exact (performed_len gr r (mvd c m)).trans (mvd_length c m)
    · rfl
def movesOk (n : Nat) (ns : List Nat) : Bool := (decide (ns.length ≤ 30) && ns.length % 3 == 0) && ns.all fun v => decide (v < n)
def applyL (n : Nat) (es pb mv : List Nat) : List Int :=
  if graphOk n es = true then
    if cfgOk n pb = true then
      if movesOk n mv = true then ((performed (graphOf n (edgesOf es)) pb (movesOf mv)).1 : Int) :: ofNats (performed (graphOf n (edgesOf es)) pb (movesOf mv)).2 else [-22]
    else [-22]
  else [-22]
theorem possible_is {n : Nat} {ps : List (Nat × Nat)} {c : Cfg} {f s t : Nat} (hf : f < n) (hs : s < n) (ht : t < n) : possible (graphOf n ps) c (f, s, t) = Ks581.canMove ⟨n, ps⟩ c f s t := by
  have hg : (graphOf n ps).getD t [] = nbrs n ps t := by
    rw [List.getD_eq_getElem?_getD, graphOf_get ht]; rfl
  have e1 : (nbrs n ps t).contains f = adj ps f t := by
    rw [Bool.eq_iff_iff, List.contains_iff_mem, mem_nbrs, adj_comm ps f t]
    exact ⟨fun h => h.2, fun h => ⟨hf, h⟩⟩
  have e2 : (nbrs n ps t).contains s = adj ps s t := by
    rw [Bool.eq_iff_iff, List.contains_iff_mem, mem_nbrs, adj_comm ps s t]
    exact ⟨fun h => h.2, fun h => ⟨hs, h⟩⟩
  unfold possible Ks581.canMove
  rw [isAdjacent_iff, isAdjacent_iff]
  show (((graphOf n ps).getD t []).contains f && (((graphOf n ps).getD t []).contains s && hasP c (f, s, t))) = (adj ps f t && adj ps s t && hasP c (f, s, t))
  rw [hg, e1, e2, Bool.and_assoc]
theorem performed_is {n : Nat} {ps : List (Nat × Nat)} : ∀ (ns : List Nat) (c : Cfg), (∀ v ∈ ns, v < n) → performed (graphOf n ps) c (movesOf ns) = Ks581.applyMoves ⟨n, ps⟩ c ns
  | [], c, h => rfl
  | [a], c, h => rfl
  | [a, b], c, h => rfl
  | a :: b :: d :: r, c, h => by
    have ha := h a (by simp)
    have hb := h b (by simp)
    have hd := h d (by simp)
    have ih := performed_is (ps := ps) r (mvd c (a, b, d)) (fun v hv => h v (by simp [hv]))
    show (if possible (graphOf n ps) c (a, b, d) = true then ((performed (graphOf n ps) (mvd c (a, b, d)) (movesOf r)).1 + 1, (performed (graphOf n ps) (mvd c (a, b, d)) (movesOf r)).2) else (0, c)) = _
    unfold Ks581.applyMoves
    rw [possible_is ha hb hd, ih]
    rfl
theorem apply_spec (n : Nat) (es pb mv : List Nat) : PyKs581.apply_moves n (ofNats es) (ofNats pb) (ofNats mv) = applyL n es pb mv := by
  show Ks581Neutral.integers (Ks581.answer (.applyMoves n ((ofNats es).map Int.toNat) ((ofNats pb).map Int.toNat) ((ofNats mv).map Int.toNat))) = _
  rw [toNat_ofNats, toNat_ofNats, toNat_ofNats]
  unfold Ks581.answer Ks577.withConfiguration Ks577.withGraph applyL
  simp only []
  rw [parseGraph_eq]
  by_cases hg : graphOk n es = true
  · rw [if_pos hg, if_pos hg]
    simp only []
    have e : Ks577.isValidConfiguration ⟨n, edgesOf es⟩ pb = cfgOk n pb := rfl
    rw [e]
    by_cases hc : cfgOk n pb = true
    · rw [if_pos hc, if_pos hc]
      by_cases hm : movesOk n mv = true
      · rw [if_pos hm]
        unfold movesOk at hm
        simp only [Bool.and_eq_true, decide_eq_true_eq, beq_iff_eq, List.all_eq_true] at hm
        obtain ⟨⟨h1, h2⟩, h3⟩ := hm
        rw [if_neg]
        · rw [performed_is mv pb h3]
          rfl
        · rintro (h | h | h)
          · omega
          · omega
          · rw [List.any_eq_true] at h
            obtain ⟨x, hx, hp⟩ := h
            have := h3 x hx
            have := of_decide_eq_true hp
            omega
      · rw [if_neg hm, if_pos]
        · rfl
        · unfold movesOk at hm
          by_cases h1 : 30 < mv.length
          · exact .inl h1
          · by_cases h2 : mv.length % 3 = 0
            · refine .inr (.inr ?_)
              have h3 : ¬ (mv.all fun v => decide (v < n)) = true := fun h3 => hm (by
                rw [h3, Bool.and_true, decide_eq_true (show mv.length ≤ 30 by omega)]
                simp [h2])
              rw [Bool.not_eq_true, List.all_eq_false] at h3
              obtain ⟨x, hx, hp⟩ := h3
              rw [List.any_eq_true]
              refine ⟨x, hx, decide_eq_true ?_⟩
              have : ¬ x < n := fun z => hp (decide_eq_true z)
              omega
            · exact .inr (.inl h2)
    · rw [if_neg hc, if_neg hc]; rfl
  · rw [if_neg hg, if_neg hg]; rfl
end Rub
/-! Sums, the specification's list of configurations, how many configurations there are. -/
namespace Rub
theorem sum_set_nat : ∀ (c : Cfg) (i x : Nat), i < c.length → (c.set i x).sum + c.getD i 0 = c.sum + x
  | [], i, x, h => by simp at h
  | a :: r, 0, x, h => by
    show (x :: r).sum + a = (a :: r).sum + x
    rw [List.sum_cons, List.sum_cons]
    omega
  | a :: r, i + 1, x, h => by
    have ih := sum_set_nat r i x (by simpa using h)
    show (a :: r.set i x).sum + r.getD i 0 = (a :: r).sum + x
    rw [List.sum_cons, List.sum_cons]
    omega
theorem getD_set_self {c : Cfg} {i x : Nat} (h : i < c.length) : (c.set i x).getD i 0 = x := by
  rw [List.getD_eq_getElem?_getD, List.getElem?_set_self h]
  rfl
theorem getD_set_ne {c : Cfg} {i j x : Nat} (h : i ≠ j) : (c.set i x).getD j 0 = c.getD j 0 := by
  rw [List.getD_eq_getElem?_getD, List.getElem?_set_ne h, ← List.getD_eq_getElem?_getD]
theorem hasP_first {c : Cfg} {m : Mv} (h : hasP c m = true) : 1 ≤ c.getD m.1 0 := by
  unfold hasP Ks577.pebblesAt at h
  split at h
  · have := of_decide_eq_true h
    omega
  · rw [Bool.and_eq_true] at h
    exact of_decide_eq_true h.1
theorem hasP_second {c : Cfg} {m : Mv} (h : hasP c m = true) (hf : m.1 < c.length) : 1 ≤ (c.set m.1 (c.getD m.1 0 - 1)).getD m.2.1 0 := by
  unfold hasP Ks577.pebblesAt at h
  split at h
  · rename_i e
    have := of_decide_eq_true h
    rw [← e, getD_set_self hf]
    omega
  · rename_i e
    rw [Bool.and_eq_true] at h
    rw [getD_set_ne e]
    exact of_decide_eq_true h.2
/-- every move takes one pebble away -/
theorem sum_mvd {c : Cfg} {m : Mv} (h : hasP c m = true) (hf : m.1 < c.length) (hs : m.2.1 < c.length) (ht : m.2.2 < c.length) : (mvd c m).sum + 1 = c.sum := by
  have h1 := hasP_first h
  have h2 := hasP_second h hf
  show (((c.set m.1 (c.getD m.1 0 - 1)).set m.2.1 ((c.set m.1 (c.getD m.1 0 - 1)).getD m.2.1 0 - 1)).set m.2.2 (((c.set m.1 (c.getD m.1 0 - 1)).set m.2.1 ((c.set m.1 (c.getD m.1 0 - 1)).getD m.2.1 0 - 1)).getD m.2.2 0 + 1)).sum + 1 = c.sum
  have e1 := sum_set_nat c m.1 (c.getD m.1 0 - 1) hf
  generalize hc1 : c.set m.1 (c.getD m.1 0 - 1) = c1 at *
  have l1 : c1.length = c.length := by rw [← hc1, List.length_set]
  have e2 := sum_set_nat c1 m.2.1 (c1.getD m.2.1 0 - 1) (by omega)
  generalize hc2 : c1.set m.2.1 (c1.getD m.2.1 0 - 1) = c2 at *
  have l2 : c2.length = c.length := by rw [← hc2, List.length_set, l1]
  have e3 := sum_set_nat c2 m.2.2 (c2.getD m.2.2 0 + 1) (by omega)
  omega
/-- the moves of a list stay on n vertices -/
def MovesIn (n : Nat) (ms : List Mv) : Prop := ∀ m ∈ ms, m.1 < n ∧ m.2.1 < n ∧ m.2.2 < n
theorem behind_len {c d : Cfg} {ms : List Mv} (h : d ∈ allBehind c ms) : d.length = c.length := by
  unfold allBehind at h
  obtain ⟨m, _, e⟩ := List.mem_map.mp h
  rw [← e]
  exact mvd_length ..
theorem behind_sum {n : Nat} {c d : Cfg} {ms : List Mv} (hm : MovesIn n ms) (hl : c.length = n) (h : d ∈ allBehind c ms) : d.sum + 1 = c.sum := by
  unfold allBehind at h
  obtain ⟨m, hmm, e⟩ := List.mem_map.mp h
  obtain ⟨h1, h2⟩ := List.mem_filter.mp hmm
  obtain ⟨a1, a2, a3⟩ := hm m h1
  rw [← e]
  exact sum_mvd h2 (by omega) (by omega) (by omega)
theorem rubMoves_in (n : Nat) (ps : List (Nat × Nat)) : MovesIn n (rubMoves (graphOf n ps)) := fun m hm => by
  obtain ⟨h1, h2, h3, _⟩ := mem_rubMoves.mp hm
  exact ⟨h2, h3, h1⟩
theorem mem_configurations : ∀ {n p : Nat} {c : Cfg}, c ∈ Ks578.configurations n p ↔ c.length = n ∧ c.sum = p
  | 0, p, c => by
    unfold Ks578.configurations
    by_cases h : p = 0
    · rw [if_pos h, List.mem_singleton]
      constructor
      · rintro rfl; exact ⟨rfl, h.symm⟩
      · rintro ⟨h1, _⟩; exact List.length_eq_zero_iff.mp h1
    · rw [if_neg h]
      constructor
      · intro z; exact absurd z (by simp)
      · rintro ⟨h1, h2⟩
        rw [List.length_eq_zero_iff.mp h1] at h2
        exact absurd h2.symm h
  | n + 1, p, c => by
    unfold Ks578.configurations
    simp only [List.mem_flatMap, List.mem_map, List.mem_range]
    constructor
    · rintro ⟨a, ha, r, hr, rfl⟩
      obtain ⟨h1, h2⟩ := mem_configurations.mp hr
      rw [List.length_cons, List.sum_cons]
      omega
    · rintro ⟨h1, h2⟩
      cases c with
      | nil => simp at h1
      | cons a r =>
        rw [List.length_cons] at h1
        rw [List.sum_cons] at h2
        exact ⟨a, by omega, r, mem_configurations.mpr ⟨by omega, by omega⟩, rfl⟩
theorem nodup_len {α : Type} [DecidableEq α] : ∀ (l m : List α), l.Nodup → (∀ x ∈ l, x ∈ m) → l.length ≤ m.length
  | [], _, _, _ => Nat.zero_le _
  | x :: l, m, hn, hs => by
    obtain ⟨h1, h2⟩ := List.nodup_cons.mp hn
    have hx := hs x (List.mem_cons_self ..)
    have ih := nodup_len l (m.erase x) h2 (fun y hy => (List.mem_erase_of_ne (fun e => h1 (by rw [← e]; exact hy))).mpr (hs y (List.mem_cons_of_mem _ hy)))
    rw [List.length_erase_of_mem hx] at ih
    have : 0 < m.length := List.length_pos_of_mem hx
    rw [List.length_cons]
    omega
def manyCfgs (n : Nat) : List Cfg := (List.range 13).flatMap fun p => Ks578.configurations n p
theorem many_le : ∀ n, n ≤ 5 → (manyCfgs n).length ≤ 10000 := by
  have h : (List.range 6).all (fun n => decide ((manyCfgs n).length ≤ 10000)) = true := by decide +kernel
  intro n hn
  exact of_decide_eq_true (List.all_eq_true.mp h n (List.mem_range.mpr (by omega)))
theorem few_cfgs {n : Nat} (hn : n ≤ 5) {l : List Cfg} (hd : l.Nodup) (h : ∀ c ∈ l, c.length = n ∧ c.sum ≤ 12) : l.length ≤ 10000 := by
  refine Nat.le_trans (nodup_len l (manyCfgs n) hd fun c hc => ?_) (many_le n hn)
  obtain ⟨h1, h2⟩ := h c hc
  exact List.mem_flatMap.mpr ⟨c.sum, List.mem_range.mpr (by omega), mem_configurations.mpr ⟨h1, rfl⟩⟩
theorem nodup_snoc {α : Type} : ∀ {l : List α} {k : α}, l.Nodup → ¬ k ∈ l → (l ++ [k]).Nodup
  | [], k, _, _ => by simp
  | a :: r, k, h, hk => by
    obtain ⟨h1, h2⟩ := List.nodup_cons.mp h
    show (a :: (r ++ [k])).Nodup
    refine List.nodup_cons.mpr ⟨fun m => ?_, nodup_snoc h2 fun m => hk (List.mem_cons.mpr (Or.inr m))⟩
    rcases List.mem_append.mp m with q | q
    · exact h1 q
    · exact hk (List.mem_cons.mpr (Or.inl (List.mem_singleton.mp q).symm))
theorem nodup_addNew {acc : List Cfg} (x : Cfg) (h : acc.Nodup) : (addNew acc x).Nodup := by
  unfold addNew
  split
  · exact h
  · rename_i hx
    exact nodup_snoc h hx
theorem nodup_foldl : ∀ (l acc : List Cfg), acc.Nodup → (l.foldl addNew acc).Nodup
  | [], acc, h => h
  | x :: l, acc, h => nodup_foldl l _ (nodup_addNew x h)
theorem nodup_dedup (l : List Cfg) : (dedup l).Nodup := nodup_foldl l [] List.nodup_nil
/-- every level: n vertices, at most 12 pebbles -/
def LevOk (n : Nat) (lev : List Cfg) : Prop := ∀ c ∈ lev, c.length = n ∧ c.sum ≤ 12
theorem behind_ok {n : Nat} {c d : Cfg} {ms : List Mv} (hm : MovesIn n ms) (hl : c.length = n ∧ c.sum ≤ 12) (h : d ∈ allBehind c ms) : d.length = n ∧ d.sum ≤ 12 := by
  have h1 := behind_len h
  have h2 := behind_sum hm hl.1 h
  omega
theorem next_ok {n : Nat} {lev : List Cfg} {ms : List Mv} (hm : MovesIn n ms) (h : LevOk n lev) : LevOk n (nextLevel lev ms) := fun d hd => by
  unfold nextLevel at hd
  rw [mem_dedup, List.mem_flatMap] at hd
  obtain ⟨c, hc, hd⟩ := hd
  exact behind_ok hm (h c hc) hd
theorem lev_ok {n : Nat} {s : Cfg} {ms : List Mv} (hm : MovesIn n ms) (hs : s.length = n ∧ s.sum ≤ 12) : ∀ i, LevOk n (lev ms s i)
  | 0 => fun c hc => by
    rw [List.mem_singleton.mp hc]
    exact hs
  | i + 1 => next_ok hm (lev_ok hm hs i)
theorem next_len {n : Nat} {lev : List Cfg} {ms : List Mv} (hn : n ≤ 5) (hm : MovesIn n ms) (h : LevOk n lev) : (nextLevel lev ms).length ≤ 10000 := few_cfgs hn (nodup_dedup _) (next_ok hm h)
theorem lev_len {n : Nat} {s : Cfg} {ms : List Mv} (hn : n ≤ 5) (hm : MovesIn n ms) (hs : s.length = n ∧ s.sum ≤ 12) : ∀ i, (lev ms s i).length ≤ 10000
  | 0 => by show 1 ≤ 10000; omega
  | i + 1 => next_len hn hm (lev_ok hm hs i)
theorem nbrs_length (n : Nat) (ps : List (Nat × Nat)) (v : Nat) : (nbrs n ps v).length ≤ n := by
  unfold nbrs
  exact Nat.le_trans (List.length_filter_le _ _) (Nat.le_of_eq (List.length_range ..))
/-- graphs small enough -/
def SmallGr (gr : Gr) : Prop := gr.length ≤ 5 ∧ ∀ near ∈ gr, near.length ≤ 5
theorem graphOf_small {n : Nat} {ps : List (Nat × Nat)} (h : n ≤ 5) : SmallGr (graphOf n ps) := by
  refine ⟨by rw [graphOf_length]; exact h, fun near hn => ?_⟩
  obtain ⟨v, _, e⟩ := List.mem_map.mp hn
  rw [← e]
  exact Nat.le_trans (nbrs_length ..) h
theorem flatMap_len {α β : Type} {f : α → List β} {k : Nat} : ∀ (l : List α), (∀ x ∈ l, (f x).length ≤ k) → (l.flatMap f).length ≤ l.length * k
  | [], _ => by simp
  | x :: l, h => by
    have ih := flatMap_len (f := f) (k := k) l (fun y hy => h y (List.mem_cons_of_mem _ hy))
    have h1 := h x (List.mem_cons_self ..)
    rw [List.flatMap_cons, List.length_append, List.length_cons, Nat.add_mul]
    omega
theorem movesAt_len {near : List Nat} {t : Nat} (h : near.length ≤ 5) : (movesAt near t).length ≤ 25 := by
  unfold movesAt
  refine Nat.le_trans (flatMap_len (k := 5) near fun f _ => ?_) (Nat.le_trans (Nat.mul_le_mul_right 5 h) (by decide))
  rw [List.length_map]
  exact Nat.le_trans (List.length_filter_le _ _) h
theorem movesPre_len {gr : Gr} (h : SmallGr gr) (i : Nat) : ((gr.zipIdx.take i).flatMap fun p => movesAt p.1 p.2).length ≤ 125 := by
  refine Nat.le_trans (flatMap_len (k := 25) _ fun p hp => ?_) ?_
  · have hp := List.mem_of_mem_take hp
    obtain ⟨a, b⟩ := p
    rw [mem_zipIdx_of] at hp
    exact movesAt_len (h.2 _ (List.mem_of_getElem? hp))
  · have h1 := h.1
    rw [List.length_take, List.length_zipIdx]
    refine Nat.le_trans (Nat.mul_le_mul_right 25 (Nat.min_le_right _ _)) ?_
    omega
theorem rubMoves_len {gr : Gr} (h : SmallGr gr) : (rubMoves gr).length ≤ 125 := by
  have := movesPre_len h gr.length
  rw [List.take_of_length_le (by rw [List.length_zipIdx]; exact Nat.le_refl _)] at this
  exact this
end Rub
/-! Configurations row by row; from which configurations a target is reachable; the least number of pebbles. -/
namespace Rub
/-! ### rows -/
def rowStep (p : Cfg × Nat) : List (Cfg × Nat) := (List.range (p.2 + 1)).map fun own => (p.1 ++ [own], p.2 - own)
def longer (rows : List (Cfg × Nat)) : List (Cfg × Nat) := rows.flatMap rowStep
def rowsAt (many : Nat) : Nat → List (Cfg × Nat)
  | 0 => [([], many)]
  | k + 1 => longer (rowsAt many k)
def cfgs (n many : Nat) : List Cfg := (rowsAt many (n - 1)).map fun p => p.1 ++ [p.2]
theorem conf_one (m : Nat) : Ks578.configurations 1 m = [[m]] := by
  unfold Ks578.configurations
  rw [List.range_succ, List.flatMap_append]
  have h : (List.range m).flatMap (fun first => (Ks578.configurations 0 (m - first)).map fun rest => first :: rest) = [] := by
    rw [List.flatMap_eq_nil_iff]
    intro x hx
    have := List.mem_range.mp hx
    unfold Ks578.configurations
    rw [if_neg (by omega)]
    rfl
  rw [h]
  simp [Ks578.configurations]
def closed (k : Nat) (rows : List (Cfg × Nat)) : List Cfg := rows.flatMap fun p => (Ks578.configurations (k + 1) p.2).map fun r => p.1 ++ r
theorem closed_longer (k : Nat) (rows : List (Cfg × Nat)) : closed k (longer rows) = closed (k + 1) rows := by
  unfold closed longer
  rw [List.flatMap_assoc]
  congr 1
  funext p
  unfold rowStep
  rw [List.flatMap_map]
  show _ = ((List.range (p.2 + 1)).flatMap fun first => (Ks578.configurations (k + 1) (p.2 - first)).map fun rest => first :: rest).map fun r => p.1 ++ r
  rw [List.map_flatMap]
  congr 1
  funext own
  rw [List.map_map]
  apply List.map_congr_left
  intro r _
  show (p.1 ++ [own]) ++ r = p.1 ++ (own :: r)
  rw [List.append_assoc]
  rfl
theorem closed_rows (many : Nat) : ∀ (j k : Nat), closed k (rowsAt many j) = closed (k + j) (rowsAt many 0)
  | 0, k => rfl
  | j + 1, k => by
    show closed k (longer (rowsAt many j)) = _
    rw [closed_longer, closed_rows many j (k + 1)]
    congr 1
    omega
theorem cfgs_is {n : Nat} (hn : 1 ≤ n) (many : Nat) : cfgs n many = Ks578.configurations n many := by
  have h0 : cfgs n many = closed 0 (rowsAt many (n - 1)) := by
    unfold cfgs closed
    rw [List.map_eq_flatMap]
    congr 1
    funext p
    rw [conf_one]
    rfl
  rw [h0, closed_rows]
  show ([(([] : Cfg), many)].flatMap fun p => (Ks578.configurations (0 + (n - 1) + 1) p.2).map fun r => p.1 ++ r) = _
  rw [show 0 + (n - 1) + 1 = n by omega]
  simp
theorem conf_nodup : ∀ n p, (Ks578.configurations n p).Nodup
  | 0, p => by
    unfold Ks578.configurations
    split <;> simp
  | n + 1, p => by
    unfold Ks578.configurations
    show List.Pairwise _ _
    rw [List.pairwise_flatMap]
    constructor
    · intro a _
      rw [List.pairwise_map]
      exact List.Pairwise.imp (fun h e => h (List.cons.inj e).2) (conf_nodup n (p - a))
    · refine List.Pairwise.imp ?_ (List.nodup_range (n := p + 1))
      intro a b hab x hx y hy e
      obtain ⟨r, _, rfl⟩ := List.mem_map.mp hx
      obtain ⟨r', _, rfl⟩ := List.mem_map.mp hy
      exact hab (List.cons.inj e).1
theorem rowsAt_ok {many : Nat} : ∀ (j : Nat) (p : Cfg × Nat), p ∈ rowsAt many j → p.1.length = j ∧ p.1.sum + p.2 = many
  | 0, p, h => by
    rw [List.mem_singleton.mp h]
    exact ⟨rfl, by simp⟩
  | j + 1, p, h => by
    obtain ⟨q, hq, hp⟩ := List.mem_flatMap.mp (show p ∈ (rowsAt many j).flatMap rowStep from h)
    obtain ⟨own, ho, rfl⟩ := List.mem_map.mp hp
    obtain ⟨h1, h2⟩ := rowsAt_ok j q hq
    have := List.mem_range.mp ho
    refine ⟨by simp [h1], ?_⟩
    show (q.1 ++ [own]).sum + (q.2 - own) = many
    rw [List.sum_append]
    simp
    omega

/-! ### reachable with one target -/
def canR (t : Nat) (ms : List Mv) (before : List Cfg) (c : Cfg) : Bool := decide (0 < Ks577.pebblesAt c t) || (allBehind c ms).any fun d => decide (d ∈ before)
def reaching (rows : List Cfg) (t : Nat) (ms : List Mv) (before : List Cfg) : List Cfg := (rows.filter (canR t ms before)).foldl addNew []
def bef (n t : Nat) (ms : List Mv) : Nat → List Cfg
  | 0 => []
  | k + 1 => reaching (Ks578.configurations n (k + 1)) t ms (bef n t ms k)
theorem foldl_addNew_nodup : ∀ (l acc : List Cfg), (acc ++ l).Nodup → l.foldl addNew acc = acc ++ l
  | [], acc, _ => (List.append_nil _).symm
  | x :: l, acc, h => by
    have hx : x ∉ acc := fun hx => by
      rw [List.nodup_append] at h
      exact h.2.2 x hx x (List.mem_cons_self ..) rfl
    have e : addNew acc x = acc ++ [x] := if_neg hx
    rw [List.foldl_cons, e, foldl_addNew_nodup l (acc ++ [x]) (by rw [List.append_assoc]; exact h), List.append_assoc]
    rfl
theorem reaching_is {rows : List Cfg} {t : Nat} {ms : List Mv} {before : List Cfg} (h : rows.Nodup) : reaching rows t ms before = rows.filter (canR t ms before) := by
  unfold reaching
  rw [foldl_addNew_nodup _ [] (by rw [List.nil_append]; exact List.Pairwise.filter _ h), List.nil_append]
/-- the specification's unsolvable configurations, of any successors -/
def unsolv (S : Cfg → List Cfg) (n t : Nat) : Nat → List Cfg
  | 0 => Ks578.configurations n 0
  | p + 1 => (Ks578.configurations n (p + 1)).filter fun c => Ks577.pebblesAt c t == 0 && (S c).all fun d => (unsolv S n t p).contains d
theorem unsolv_rub (g : Ks577.Graph) (t : Nat) : ∀ p, Ks581.unsolvable g t p = unsolv (Ks581.successors g) g.vertexCount t p
  | 0 => rfl
  | p + 1 => by
    unfold Ks581.unsolvable unsolv
    rw [unsolv_rub g t p]
theorem unsolv_peb (g : Ks577.Graph) (t : Nat) : ∀ p, Ks578.unsolvable g t p = unsolv (Ks577.successors g) g.vertexCount t p
  | 0 => rfl
  | p + 1 => by
    unfold Ks578.unsolvable unsolv
    rw [unsolv_peb g t p]
theorem unsolv_conf {S : Cfg → List Cfg} {n t : Nat} : ∀ {p : Nat} {c : Cfg}, c ∈ unsolv S n t p → c ∈ Ks578.configurations n p
  | 0, c, h => h
  | p + 1, c, h => (List.mem_filter.mp h).1
/-- what the program keeps is what the specification does not call unsolvable -/
theorem mem_bef {S : Cfg → List Cfg} {n t : Nat} {ms : List Mv} (hS : ∀ c d, d ∈ allBehind c ms ↔ d ∈ S c) (hm : MovesIn n ms) : ∀ (p : Nat) (c : Cfg), c ∈ bef n t ms p ↔ c ∈ Ks578.configurations n p ∧ c ∉ unsolv S n t p
  | 0, c => by
    constructor
    · intro h; exact absurd h (by simp [bef])
    · rintro ⟨h1, h2⟩; exact absurd h1 h2
  | p + 1, c => by
    show c ∈ reaching _ _ _ _ ↔ _
    rw [reaching_is (conf_nodup _ _), List.mem_filter]
    constructor
    · rintro ⟨h1, h2⟩
      refine ⟨h1, fun hu => ?_⟩
      have hu := (List.mem_filter.mp hu).2
      rw [Bool.and_eq_true] at hu
      unfold canR at h2
      rw [Bool.or_eq_true] at h2
      rcases h2 with h | h
      · have e := eq_of_beq hu.1
        have := of_decide_eq_true h
        omega
      · obtain ⟨d, hd, hb⟩ := List.any_eq_true.mp h
        have hb := of_decide_eq_true hb
        have hnu := ((mem_bef hS hm p d).mp hb).2
        have := List.all_eq_true.mp hu.2 d ((hS c d).mp hd)
        exact hnu (List.contains_iff_mem.mp this)
    · rintro ⟨h1, h2⟩
      refine ⟨h1, ?_⟩
      unfold canR
      rw [Bool.or_eq_true]
      by_cases h : 0 < Ks577.pebblesAt c t
      · exact .inl (decide_eq_true h)
      · refine .inr ?_
        have h2' : ¬ ((Ks577.pebblesAt c t == 0 && (S c).all fun d => (unsolv S n t p).contains d) = true) := fun z => h2 (List.mem_filter.mpr ⟨h1, z⟩)
        have e0 : (Ks577.pebblesAt c t == 0) = true := beq_iff_eq.mpr (by omega)
        rw [e0, Bool.true_and, Bool.not_eq_true, List.all_eq_false] at h2'
        obtain ⟨d, hd, hc⟩ := h2'
        have hd' := (hS c d).mpr hd
        refine List.any_eq_true.mpr ⟨d, hd', decide_eq_true ((mem_bef hS hm p d).mpr ⟨?_, fun z => hc (List.contains_iff_mem.mpr z)⟩)⟩
        obtain ⟨l1, l2⟩ := mem_configurations.mp h1
        have := behind_sum hm l1 hd'
        exact mem_configurations.mpr ⟨(behind_len hd').trans l1, by omega⟩
theorem bef_full {S : Cfg → List Cfg} {n t : Nat} {ms : List Mv} (hS : ∀ c d, d ∈ allBehind c ms ↔ d ∈ S c) (hm : MovesIn n ms) (p : Nat) :
    ((bef n t ms (p + 1)).length == (Ks578.configurations n (p + 1)).length) = (unsolv S n t (p + 1)).isEmpty := by
  rw [Bool.eq_iff_iff, beq_iff_eq, List.isEmpty_iff]
  have e : bef n t ms (p + 1) = (Ks578.configurations n (p + 1)).filter (canR t ms (bef n t ms p)) := reaching_is (conf_nodup _ _)
  constructor
  · intro h
    rw [e, List.length_filter_eq_length_iff] at h
    refine List.eq_nil_iff_forall_not_mem.mpr fun c hc => ?_
    have h1 := unsolv_conf hc
    have h2 : c ∈ bef n t ms (p + 1) := by rw [e]; exact List.mem_filter.mpr ⟨h1, h c h1⟩
    exact ((mem_bef hS hm (p + 1) c).mp h2).2 hc
  · intro h
    rw [e, List.length_filter_eq_length_iff]
    intro c hc
    have h2 : c ∈ bef n t ms (p + 1) := (mem_bef hS hm (p + 1) c).mpr ⟨hc, by rw [h]; exact List.not_mem_nil⟩
    rw [e] at h2
    exact (List.mem_filter.mp h2).2
/-- the least number below most, else most -/
def firstOf (U : Nat → Bool) (most : Nat) : Nat := ((List.range most).find? fun k => decide (1 ≤ k) && U k).getD most
def leastNumber (n t : Nat) (ms : List Mv) (most : Nat) : Nat := firstOf (fun k => (bef n t ms k).length == (Ks578.configurations n k).length) most
theorem find_range {p : Nat → Bool} {m k : Nat} (hk : k < m) (hp : p k = true) (hn : ∀ j, j < k → p j = false) : (List.range m).find? p = some k := by
  rw [List.find?_range_eq_some]
  exact ⟨hp, List.mem_range.mpr hk, fun j hj => by rw [hn j hj]; rfl⟩
theorem least_of : ∀ {p : Nat → Bool} {k : Nat}, p k = true → ∃ j, j ≤ k ∧ p j = true ∧ ∀ i, i < j → p i = false := fun {p k} hp => by
  induction k using Nat.strongRecOn with
  | ind k ih =>
    by_cases h : ∃ j, j < k ∧ p j = true
    · obtain ⟨j, hj, hpj⟩ := h
      obtain ⟨i, hi, a, b⟩ := ih j hj hpj
      exact ⟨i, by omega, a, b⟩
    · refine ⟨k, Nat.le_refl _, hp, fun i hi => ?_⟩
      cases e : p i with
      | false => rfl
      | true => exact absurd ⟨i, hi, e⟩ h
/-- where some number does it at or below both ends, the search to one end and the search to the other agree -/
theorem firstOf_is {U : Nat → Bool} {most k : Nat} (h1 : 1 ≤ k) (h2 : k ≤ most) (h3 : k ≤ 10) (hU : U k = true) : (List.range 11).find? (fun p => decide (1 ≤ p) && U p) = some (firstOf U most) := by
  have hp : (fun p => decide (1 ≤ p) && U p) k = true := by
    show (decide (1 ≤ k) && U k) = true
    rw [decide_eq_true h1, hU]
    rfl
  obtain ⟨j, hj, a, b⟩ := least_of (p := fun p => decide (1 ≤ p) && U p) hp
  rw [find_range (by omega) a b]
  unfold firstOf
  by_cases hm : j < most
  · rw [find_range hm a b]
    rfl
  · have e : (List.range most).find? (fun k => decide (1 ≤ k) && U k) = none := by
      rw [List.find?_range_eq_none]
      intro i hi
      have := b i (by omega)
      rw [show (decide (1 ≤ i) && U i) = false from this]
      rfl
    rw [e]
    show some j = some most
    congr 1
    omega
theorem firstOf_congr {U U' : Nat → Bool} {most : Nat} (h : ∀ k, 1 ≤ k → U k = U' k) : firstOf U most = firstOf U' most := by
  unfold firstOf
  congr 2
  funext k
  by_cases hk : 1 ≤ k
  · rw [h k hk]
  · rw [decide_eq_false hk]
    rfl
theorem leastNumber_is {S : Cfg → List Cfg} {n t : Nat} {ms : List Mv} (hS : ∀ c d, d ∈ allBehind c ms ↔ d ∈ S c) (hm : MovesIn n ms) (most : Nat) : leastNumber n t ms most = firstOf (fun k => (unsolv S n t k).isEmpty) most := by
  refine firstOf_congr fun k hk => ?_
  obtain ⟨p, rfl⟩ : ∃ p, k = p + 1 := ⟨k - 1, by omega⟩
  exact bef_full hS hm p
end Rub
/-! Pebbling moves; distances; connected; diameter. -/
namespace Rub
/-! ### pebbling moves -/
theorem mem_pebMoves {n : Nat} {ps : List (Nat × Nat)} {m : Mv} : m ∈ pebMoves (graphOf n ps) ↔ m.2.2 < n ∧ m.1 < n ∧ m.2.1 = m.1 ∧ adj ps m.2.2 m.1 = true := by
  unfold pebMoves
  rw [List.mem_filter, mem_rubMoves]
  constructor
  · rintro ⟨⟨h1, h2, h3, h4, h5, h6⟩, h7⟩
    exact ⟨h1, h2, (eq_of_beq h7).symm, h5⟩
  · rintro ⟨h1, h2, h3, h4⟩
    refine ⟨⟨h1, h2, by rw [h3]; exact h2, by rw [h3]; exact Nat.le_refl _, h4, by rw [h3]; exact h4⟩, by rw [h3]; exact beq_self_eq_true _⟩
theorem peb_move {c : Cfg} {u v : Nat} (h : 2 ≤ Ks577.pebblesAt c u) : mvd c (u, u, v) = Ks577.move c u v := by
  have hu : u < c.length := by
    by_cases hu : u < c.length
    · exact hu
    · unfold Ks577.pebblesAt at h
      rw [List.getD_eq_getElem?_getD, List.getElem?_eq_none (by omega)] at h
      simp at h
  have e : Ks581.removeOne (Ks581.removeOne c u) u = c.set u (Ks577.pebblesAt c u - 2) := by
    unfold Ks581.removeOne Ks577.pebblesAt
    rw [getD_set_self hu, List.set_set]
    congr 1
  show (Ks581.removeOne (Ks581.removeOne c u) u).set v (Ks577.pebblesAt (Ks581.removeOne (Ks581.removeOne c u) u) v + 1) = (c.set u (Ks577.pebblesAt c u - 2)).set v (Ks577.pebblesAt (c.set u (Ks577.pebblesAt c u - 2)) v + 1)
  rw [e]
theorem mem_behind_peb {n : Nat} {ps : List (Nat × Nat)} {c d : Cfg} : d ∈ allBehind c (pebMoves (graphOf n ps)) ↔ d ∈ Ks577.successors ⟨n, ps⟩ c := by
  unfold allBehind Ks577.successors Ks577.possibleMoves
  simp only [List.mem_map, List.mem_filter, List.mem_flatMap, List.mem_range]
  constructor
  · rintro ⟨⟨f, s, t⟩, ⟨hm, hp⟩, rfl⟩
    obtain ⟨ht, hf, hs, ha⟩ := mem_pebMoves.mp hm
    have hs : s = f := hs
    subst hs
    have h2 : 2 ≤ Ks577.pebblesAt c s := by
      unfold hasP at hp
      rw [if_pos rfl] at hp
      exact of_decide_eq_true hp
    refine ⟨(s, t), ⟨s, hf, t, ⟨ht, ?_⟩, rfl⟩, (peb_move h2).symm⟩
    unfold Ks577.canMove
    rw [isAdjacent_iff, adj_comm, show adj ps t s = true from ha, decide_eq_true h2]
    rfl
  · rintro ⟨⟨u, v⟩, ⟨u', hu, v', ⟨hv, hc⟩, e⟩, rfl⟩
    cases e
    unfold Ks577.canMove at hc
    rw [isAdjacent_iff, Bool.and_eq_true] at hc
    have h2 := of_decide_eq_true hc.2
    refine ⟨(u, u, v), ⟨mem_pebMoves.mpr ⟨hv, hu, rfl, by rw [adj_comm]; exact hc.1⟩, ?_⟩, peb_move h2⟩
    unfold hasP
    rw [if_pos rfl]
    exact decide_eq_true h2
theorem pebMoves_in (n : Nat) (ps : List (Nat × Nat)) : MovesIn n (pebMoves (graphOf n ps)) := fun m hm => rubMoves_in n ps m (List.mem_filter.mp hm).1
theorem pebMoves_len {gr : Gr} (h : SmallGr gr) : (pebMoves gr).length ≤ 125 := Nat.le_trans (List.length_filter_le _ _) (rubMoves_len h)
/-- with more moves less is unsolvable -/
theorem unsolv_sub {n t : Nat} {ps : List (Nat × Nat)} : ∀ (p : Nat) (c : Cfg), c ∈ unsolv (Ks581.successors ⟨n, ps⟩) n t p → c ∈ unsolv (Ks577.successors ⟨n, ps⟩) n t p
  | 0, c, h => h
  | p + 1, c, h => by
    obtain ⟨h1, h2⟩ := List.mem_filter.mp h
    rw [Bool.and_eq_true] at h2
    refine List.mem_filter.mpr ⟨h1, ?_⟩
    rw [Bool.and_eq_true]
    refine ⟨h2.1, List.all_eq_true.mpr fun d hd => ?_⟩
    have hd1 : d ∈ allBehind c (rubMoves (graphOf n ps)) := by
      have := mem_behind_peb.mpr hd
      unfold allBehind at this ⊢
      obtain ⟨m, hm, e⟩ := List.mem_map.mp this
      obtain ⟨a, b⟩ := List.mem_filter.mp hm
      exact List.mem_map.mpr ⟨m, List.mem_filter.mpr ⟨(List.mem_filter.mp a).1, b⟩, e⟩
    have := List.all_eq_true.mp h2.2 d (mem_behind.mp hd1)
    exact List.contains_iff_mem.mpr (unsolv_sub p d (List.contains_iff_mem.mp this))

/-! ### spheres: the vertices within so many steps -/
def step (n : Nat) (ps : List (Nat × Nat)) (vs : List Nat) : List Nat := (List.range n).filter fun v => vs.contains v || vs.any fun u => adj ps u v
def ball (n : Nat) (ps : List (Nat × Nat)) (u : Nat) : Nat → List Nat
  | 0 => [u]
  | k + 1 => step n ps (ball n ps u k)
theorem nb_is (n : Nat) (ps : List (Nat × Nat)) (u : Nat) : ∀ (k j : Nat), Ks577.neighbourhood ⟨n, ps⟩ k (ball n ps u j) = ball n ps u (j + k)
  | 0, j => rfl
  | k + 1, j => by
    unfold Ks577.neighbourhood
    have e : ((List.range n).filter fun v => (ball n ps u j).contains v || (ball n ps u j).any fun w => Ks577.isAdjacent ⟨n, ps⟩ w v) = ball n ps u (j + 1) := by
      show _ = step n ps (ball n ps u j)
      unfold step
      congr 1
      funext v
      congr 2
      funext w
      exact isAdjacent_iff
    show Ks577.neighbourhood ⟨n, ps⟩ k ((List.range n).filter fun v => (ball n ps u j).contains v || (ball n ps u j).any fun w => Ks577.isAdjacent ⟨n, ps⟩ w v) = _
    rw [e, nb_is n ps u k (j + 1)]
    congr 1
    omega
theorem mem_step {n : Nat} {ps : List (Nat × Nat)} {vs : List Nat} {v : Nat} : v ∈ step n ps vs ↔ v < n ∧ (v ∈ vs ∨ ∃ u ∈ vs, adj ps u v = true) := by
  unfold step
  rw [List.mem_filter, List.mem_range, Bool.or_eq_true, List.contains_iff_mem, List.any_eq_true]
/-- v is first met at step k -/
def At (n : Nat) (ps : List (Nat × Nat)) (u v k : Nat) : Prop := v ∈ ball n ps u k ∧ ∀ j, j < k → v ∉ ball n ps u j
theorem At.unique {n : Nat} {ps : List (Nat × Nat)} {u v k j : Nat} (a : At n ps u v k) (b : At n ps u v j) : k = j := by
  rcases Nat.lt_trichotomy k j with h | h | h
  · exact absurd a.1 (b.2 k h)
  · exact h
  · exact absurd b.1 (a.2 j h)
theorem At.of_ball {n : Nat} {ps : List (Nat × Nat)} {u v k : Nat} (h : v ∈ ball n ps u k) : ∃ j, j ≤ k ∧ At n ps u v j := by
  obtain ⟨j, hj, a, b⟩ := least_of (p := fun j => (ball n ps u j).contains v) (k := k) (List.contains_iff_mem.mpr h)
  exact ⟨j, hj, List.contains_iff_mem.mp a, fun i hi hm => by
    have := b i hi
    rw [show (ball n ps u i).contains v = true from List.contains_iff_mem.mpr hm] at this
    cases this⟩
theorem ball_lt {n : Nat} {ps : List (Nat × Nat)} {u v k : Nat} (hu : u < n) (h : v ∈ ball n ps u k) : v < n := by
  cases k with
  | zero => rw [List.mem_singleton.mp h]; exact hu
  | succ k => exact (mem_step.mp h).1
theorem ball_up {n : Nat} {ps : List (Nat × Nat)} {u v k : Nat} (hu : u < n) (h : v ∈ ball n ps u k) : v ∈ ball n ps u (k + 1) := mem_step.mpr ⟨ball_lt hu h, .inl h⟩
theorem ball_mono {n : Nat} {ps : List (Nat × Nat)} {u v k : Nat} (hu : u < n) (h : v ∈ ball n ps u k) : ∀ {j : Nat}, k ≤ j → v ∈ ball n ps u j := by
  intro j hj
  induction j with
  | zero => rw [show k = 0 by omega] at h; exact h
  | succ j ih =>
    by_cases e : k = j + 1
    · rw [← e]; exact h
    · exact ball_up hu (ih (by omega))
theorem At.zero {n : Nat} {ps : List (Nat × Nat)} {u v : Nat} : At n ps u v 0 ↔ v = u := by
  constructor
  · intro h; exact List.mem_singleton.mp h.1
  · rintro rfl; exact ⟨List.mem_singleton.mpr rfl, fun j hj => absurd hj (Nat.not_lt_zero j)⟩
/-- one step nearer -/
theorem At.prev {n : Nat} {ps : List (Nat × Nat)} {u v k : Nat} (hu : u < n) (h : At n ps u v (k + 1)) : ∃ w, w < n ∧ adj ps w v = true ∧ At n ps u w k := by
  obtain ⟨hv, hm⟩ := mem_step.mp h.1
  rcases hm with hm | ⟨w, hw, ha⟩
  · exact absurd hm (h.2 k (by omega))
  · refine ⟨w, ball_lt hu hw, ha, hw, fun j hj hwj => ?_⟩
    exact h.2 (j + 1) (by omega) (mem_step.mpr ⟨hv, .inr ⟨w, hwj, ha⟩⟩)
theorem At.bound {n : Nat} {ps : List (Nat × Nat)} {u v k : Nat} (hu : u < n) (h : At n ps u v k) : k < n := by
  have chain : ∀ (k v : Nat), At n ps u v k → ∃ l : List Nat, l.length = k + 1 ∧ l.Nodup ∧ ∀ w ∈ l, w < n ∧ ∃ j, j ≤ k ∧ At n ps u w j := by
    intro k
    induction k with
    | zero =>
      intro v h
      exact ⟨[v], rfl, by simp, fun w hw => by
        rw [List.mem_singleton.mp hw]
        exact ⟨ball_lt hu h.1, 0, Nat.le_refl _, h⟩⟩
    | succ k ih =>
      intro v h
      obtain ⟨w, hw, _, hk⟩ := h.prev hu
      obtain ⟨l, h1, h2, h3⟩ := ih w hk
      refine ⟨v :: l, by rw [List.length_cons, h1], List.nodup_cons.mpr ⟨fun hv => ?_, h2⟩, fun x hx => ?_⟩
      · obtain ⟨_, j, hj, hA⟩ := h3 v hv
        have := h.unique hA
        omega
      · rcases List.mem_cons.mp hx with rfl | hx
        · exact ⟨ball_lt hu h.1, k + 1, Nat.le_refl _, h⟩
        · obtain ⟨a, j, hj, hA⟩ := h3 x hx
          exact ⟨a, j, by omega, hA⟩
  obtain ⟨l, h1, h2, h3⟩ := chain k v h
  have := nodup_len l (List.range n) h2 (fun x hx => List.mem_range.mpr (h3 x hx).1)
  rw [List.length_range] at this
  omega
theorem distance_is {n : Nat} {ps : List (Nat × Nat)} {u v k : Nat} (hu : u < n) : Ks577.distance ⟨n, ps⟩ u v = some k ↔ At n ps u v k := by
  have e : ∀ j, Ks577.neighbourhood ⟨n, ps⟩ j [u] = ball n ps u j := fun j => by
    have := nb_is n ps u j 0
    rw [Nat.zero_add] at this
    exact this
  unfold Ks577.distance
  show (List.range n).find? (fun steps => (Ks577.neighbourhood ⟨n, ps⟩ steps [u]).contains v) = some k ↔ _
  rw [List.find?_range_eq_some]
  constructor
  · rintro ⟨h1, _, h3⟩
    rw [e, List.contains_iff_mem] at h1
    refine ⟨h1, fun j hj hm => ?_⟩
    have := h3 j hj
    rw [e, List.contains_iff_mem.mpr hm] at this
    cases this
  · intro h
    refine ⟨by rw [e]; exact List.contains_iff_mem.mpr h.1, List.mem_range.mpr (h.bound hu), fun j hj => ?_⟩
    rw [e]
    have := h.2 j hj
    rw [Bool.not_eq_true', ← Bool.not_eq_true, List.contains_iff_mem]
    exact this
theorem distance_none {n : Nat} {ps : List (Nat × Nat)} {u v : Nat} (hu : u < n) : Ks577.distance ⟨n, ps⟩ u v = none ↔ ∀ k, ¬ At n ps u v k := by
  constructor
  · intro h k hk
    rw [(distance_is hu).mpr hk] at h
    cases h
  · intro h
    cases e : Ks577.distance ⟨n, ps⟩ u v with
    | none => rfl
    | some k => exact absurd ((distance_is hu).mp e) (h k)
/-! ### paths go both ways -/
theorem ball_comp {n : Nat} {ps : List (Nat × Nat)} {u v w i : Nat} (hu : u < n) (h : v ∈ ball n ps u i) : ∀ {j : Nat}, w ∈ ball n ps v j → w ∈ ball n ps u (i + j) := by
  intro j
  induction j generalizing w with
  | zero => intro hw; rw [List.mem_singleton.mp hw]; exact h
  | succ j ih =>
    intro hw
    obtain ⟨h1, h2⟩ := mem_step.mp hw
    rcases h2 with h2 | ⟨x, hx, ha⟩
    · exact ball_up hu (ih h2)
    · exact mem_step.mpr ⟨h1, .inr ⟨x, ih hx, ha⟩⟩
theorem ball_symm {n : Nat} {ps : List (Nat × Nat)} {u v : Nat} (hu : u < n) : ∀ {k : Nat}, v ∈ ball n ps u k → u ∈ ball n ps v k := by
  intro k
  induction k generalizing v with
  | zero => intro h; rw [List.mem_singleton.mp h]; exact List.mem_singleton.mpr rfl
  | succ k ih =>
    intro h
    have hv := ball_lt hu h
    obtain ⟨_, h2⟩ := mem_step.mp h
    rcases h2 with h2 | ⟨w, hw, ha⟩
    · exact ball_up hv (ih h2)
    · have hw' := ih hw
      have hwn := ball_lt hu hw
      have h1 : w ∈ ball n ps v 1 := mem_step.mpr ⟨hwn, .inr ⟨v, List.mem_singleton.mpr rfl, by rw [adj_comm]; exact ha⟩⟩
      have := ball_comp hv h1 hw'
      rw [show k + 1 = 1 + k by omega]
      exact this
end Rub
/-! How few pebbles are enough: from no unsolvable configuration can much be gathered. -/
namespace Rub
def cfgF (n : Nat) (f : Nat → Nat) : Cfg := (List.range n).map f
theorem cfgF_len (n : Nat) (f : Nat → Nat) : (cfgF n f).length = n := by simp [cfgF]
theorem cfgF_at {n : Nat} {f : Nat → Nat} {v : Nat} (h : v < n) : (cfgF n f).getD v 0 = f v := by
  unfold cfgF
  rw [List.getD_eq_getElem?_getD, List.getElem?_map, List.getElem?_range h]
  rfl
theorem cfgF_of {n : Nat} {c : Cfg} (h : c.length = n) : cfgF n (fun v => c.getD v 0) = c := by
  apply List.ext_getElem?
  intro i
  unfold cfgF
  rw [List.getElem?_map]
  by_cases hi : i < n
  · rw [List.getElem?_range hi, List.getElem?_eq_getElem (by omega)]
    show some (c.getD i 0) = _
    rw [List.getD_eq_getElem?_getD, List.getElem?_eq_getElem (by omega)]
    rfl
  · rw [List.getElem?_eq_none (by simp; omega), List.getElem?_eq_none (by omega)]
    rfl
/-- unsolvable, told by a function -/
def Bad (n : Nat) (ps : List (Nat × Nat)) (t : Nat) (f : Nat → Nat) : Prop := cfgF n f ∈ unsolv (Ks577.successors ⟨n, ps⟩) n t (cfgF n f).sum
/-- k moves from u to v -/
def sh (f : Nat → Nat) (u v k : Nat) : Nat → Nat := fun w => if w = v then f v + k else if w = u then f u - 2 * k else f w
theorem sum_ge : ∀ (c : Cfg) (i : Nat), c.getD i 0 ≤ c.sum
  | [], i => by simp
  | a :: r, 0 => by rw [List.sum_cons]; show a ≤ _; omega
  | a :: r, i + 1 => by
    have := sum_ge r i
    rw [List.sum_cons]
    show r.getD i 0 ≤ _
    omega
section
variable {n t : Nat} {ps : List (Nat × Nat)} {f : Nat → Nat}
theorem bad_zero (ht : t < n) (h : Bad n ps t f) : f t = 0 := by
  unfold Bad at h
  have e := cfgF_at (f := f) ht
  cases hs : (cfgF n f).sum with
  | zero =>
    have := sum_ge (cfgF n f) t
    omega
  | succ p =>
    rw [hs] at h
    have h2 := (List.mem_filter.mp h).2
    rw [Bool.and_eq_true] at h2
    have := eq_of_beq h2.1
    unfold Ks577.pebblesAt at this
    omega
theorem bad_move {u v : Nat} (hu : u < n) (hv : v < n) (hne : u ≠ v) (ha : adj ps u v = true) (h2 : 2 ≤ f u) (h : Bad n ps t f) : Bad n ps t (sh f u v 1) := by
  unfold Bad at h
  have eu := cfgF_at (f := f) hu
  cases hs : (cfgF n f).sum with
  | zero =>
    have := sum_ge (cfgF n f) u
    omega
  | succ p =>
    rw [hs] at h
    have h3 := (List.mem_filter.mp h).2
    rw [Bool.and_eq_true] at h3
    have hd : Ks577.move (cfgF n f) u v ∈ Ks577.successors ⟨n, ps⟩ (cfgF n f) := by
      unfold Ks577.successors Ks577.possibleMoves
      simp only [List.mem_map, List.mem_filter, List.mem_flatMap, List.mem_range]
      refine ⟨(u, v), ⟨u, hu, v, ⟨hv, ?_⟩, rfl⟩, rfl⟩
      unfold Ks577.canMove Ks577.pebblesAt
      rw [isAdjacent_iff, ha, eu, decide_eq_true h2]
      rfl
    have hm := List.contains_iff_mem.mp (List.all_eq_true.mp h3.2 _ hd)
    have hsum := behind_sum (pebMoves_in n ps) (cfgF_len n f) (mem_behind_peb.mpr hd)
    have e : Ks577.move (cfgF n f) u v = cfgF n (sh f u v 1) := by
      apply List.ext_getElem?
      intro i
      show (((cfgF n f).set u ((cfgF n f).getD u 0 - 2)).set v (((cfgF n f).set u ((cfgF n f).getD u 0 - 2)).getD v 0 + 1))[i]? = _
      rw [getD_set_ne hne, eu, cfgF_at hv, List.getElem?_set, List.getElem?_set, List.length_set, cfgF_len]
      unfold cfgF
      rw [List.getElem?_map, List.getElem?_map]
      by_cases hi : i < n
      · rw [List.getElem?_range hi]
        show _ = some (sh f u v 1 i)
        unfold sh
        by_cases e1 : i = v
        · subst e1
          simp [hi]
        · have e1' : ¬ v = i := fun z => e1 z.symm
          by_cases e2 : i = u
          · subst e2
            simp [e1, e1', hi]
          · have e2' : ¬ u = i := fun z => e2 z.symm
            simp [e1, e1', e2, e2']
      · rw [List.getElem?_eq_none (by simp; omega), if_neg (by omega), if_neg (by omega)]
        rfl
    unfold Bad
    rw [← e]
    have : (Ks577.move (cfgF n f) u v).sum = p := by omega
    rw [this]
    exact hm
theorem sh_zero (f : Nat → Nat) {u v : Nat} (hne : u ≠ v) : sh f u v 0 = f := by
  funext w
  unfold sh
  split
  · rename_i e; rw [e]; rfl
  · split
    · rename_i e; rw [e]; rfl
    · rfl
theorem sh_succ (f : Nat → Nat) {u v k : Nat} (hne : u ≠ v) : sh (sh f u v k) u v 1 = sh f u v (k + 1) := by
  funext w
  unfold sh
  by_cases h1 : w = v
  · subst h1
    simp
    omega
  · by_cases h2 : w = u
    · subst h2
      simp [h1]
      omega
    · simp [h1, h2]
theorem bad_shift {u v : Nat} (hu : u < n) (hv : v < n) (hne : u ≠ v) (ha : adj ps u v = true) (h : Bad n ps t f) : ∀ {k : Nat}, 2 * k ≤ f u → Bad n ps t (sh f u v k) := by
  intro k
  induction k with
  | zero => intro _; rw [sh_zero f hne]; exact h
  | succ k ih =>
    intro hk
    rw [← sh_succ f hne]
    refine bad_move hu hv hne ha ?_ (ih (by omega))
    unfold sh
    rw [if_neg hne, if_pos rfl]
    omega
/-- at distance k no vertex has 2 ^ k -/
theorem bad_pow (ht : t < n) : ∀ {k v : Nat} {f : Nat → Nat}, At n ps t v k → Bad n ps t f → f v < 2 ^ k := by
  intro k
  induction k with
  | zero =>
    intro v f ha hb
    rw [At.zero.mp ha, bad_zero ht hb]
    exact Nat.one_pos
  | succ k ih =>
    intro v f ha hb
    obtain ⟨w, hw, haw, hk⟩ := ha.prev ht
    have hne : v ≠ w := fun e => by
      rw [e] at ha
      have := ha.unique hk
      omega
    by_cases hlt : f v < 2 ^ (k + 1)
    · exact hlt
    · have h2 : 2 * 2 ^ k ≤ f v := by
        rw [Nat.pow_succ] at hlt
        omega
      have hb2 := bad_shift (ball_lt ht ha.1) hw hne (by rw [adj_comm]; exact haw) hb h2
      have := ih hk hb2
      unfold sh at this
      rw [if_pos rfl] at this
      omega
theorem sum_le_mul : ∀ (c : Cfg) (M : Nat), (∀ x ∈ c, x ≤ M) → c.sum ≤ c.length * M
  | [], M, _ => by simp
  | a :: r, M, h => by
    have ih := sum_le_mul r M (fun x hx => h x (List.mem_cons_of_mem _ hx))
    have := h a (List.mem_cons_self ..)
    rw [List.sum_cons, List.length_cons, Nat.add_mul]
    omega
theorem bad_sum (ht : t < n) {D : Nat} (hD : ∀ v, v < n → ∃ k, k ≤ D ∧ At n ps t v k) (h : Bad n ps t f) : (cfgF n f).sum ≤ (n - 1) * (2 ^ D - 1) := by
  have h1 : ((cfgF n f).set t (2 ^ D - 1)).sum ≤ n * (2 ^ D - 1) := by
    have := sum_le_mul ((cfgF n f).set t (2 ^ D - 1)) (2 ^ D - 1) (fun x hx => by
      obtain ⟨i, hi, e⟩ := List.getElem_of_mem hx
      rw [List.length_set, cfgF_len] at hi
      rw [List.getElem_set] at e
      split at e
      · omega
      · have e2 : (cfgF n f).getD i 0 = f i := cfgF_at hi
        rw [List.getD_eq_getElem?_getD, List.getElem?_eq_getElem (by rw [cfgF_len]; exact hi)] at e2
        have e2 : (cfgF n f)[i]'(by rw [cfgF_len]; exact hi) = f i := e2
        obtain ⟨k, hk, ha⟩ := hD i hi
        have h3 := bad_pow ht ha h
        have h4 : 2 ^ k ≤ 2 ^ D := Nat.pow_le_pow_right (by omega) hk
        omega)
    rw [List.length_set, cfgF_len] at this
    exact this
  have h2 := sum_set_nat (cfgF n f) t (2 ^ D - 1) (by rw [cfgF_len]; exact ht)
  rw [cfgF_at ht, bad_zero ht h] at h2
  obtain ⟨m, rfl⟩ : ∃ m, n = m + 1 := ⟨n - 1, by omega⟩
  rw [Nat.add_mul] at h1
  rw [Nat.add_sub_cancel]
  omega
end
/-! ### an order by falling distance -/
theorem perm_sum {l l' : List Nat} (h : l.Perm l') : l.sum = l'.sum := by
  induction h with
  | nil => rfl
  | cons x _ ih => rw [List.sum_cons, List.sum_cons, ih]
  | swap x y l => rw [List.sum_cons, List.sum_cons, List.sum_cons, List.sum_cons]; omega
  | trans _ _ a b => exact a.trans b
theorem ins_sorted (d : Nat → Nat) (x : Nat) : ∀ (l : List Nat), l.Pairwise (fun a b => d b ≤ d a) → ∃ l' : List Nat, l'.Perm (x :: l) ∧ l'.Pairwise (fun a b => d b ≤ d a)
  | [], _ => ⟨[x], List.Perm.refl _, by simp⟩
  | y :: r, h => by
    rw [List.pairwise_cons] at h
    by_cases hxy : d y ≤ d x
    · refine ⟨x :: y :: r, List.Perm.refl _, ?_⟩
      rw [List.pairwise_cons]
      refine ⟨fun b hb => ?_, List.pairwise_cons.mpr h⟩
      rcases List.mem_cons.mp hb with rfl | hb
      · exact hxy
      · exact Nat.le_trans (h.1 b hb) hxy
    · obtain ⟨l', hp, hs⟩ := ins_sorted d x r h.2
      refine ⟨y :: l', (hp.cons y).trans (List.Perm.swap x y r), ?_⟩
      rw [List.pairwise_cons]
      refine ⟨fun b hb => ?_, hs⟩
      rcases List.mem_cons.mp (hp.mem_iff.mp hb) with rfl | hb
      · omega
      · exact h.1 b hb
theorem exists_sorted (d : Nat → Nat) : ∀ (l : List Nat), ∃ l' : List Nat, l'.Perm l ∧ l'.Pairwise (fun a b => d b ≤ d a)
  | [] => ⟨[], List.Perm.refl _, by simp⟩
  | x :: l => by
    obtain ⟨l1, p1, s1⟩ := exists_sorted d l
    obtain ⟨l2, p2, s2⟩ := ins_sorted d x l1 s1
    exact ⟨l2, p2.trans (p1.cons x), s2⟩
theorem order_of {n t : Nat} (ht : t < n) (d : Nat → Nat) : ∃ L : List Nat, (List.range n).Perm (t :: L) ∧ L.Pairwise (fun a b => d b ≤ d a) ∧ L.length + 1 = n ∧ (t :: L).Nodup := by
  obtain ⟨L, hp, hs⟩ := exists_sorted d ((List.range n).erase t)
  have h1 : (List.range n).Perm (t :: L) := (List.perm_cons_erase (List.mem_range.mpr ht)).trans (hp.symm.cons t)
  refine ⟨L, h1, hs, ?_, ?_⟩
  · have := h1.length_eq
    rw [List.length_range, List.length_cons] at this
    exact this.symm
  · exact h1.nodup_iff.mp List.nodup_range
section
variable {n t : Nat} {ps : List (Nat × Nat)} {f : Nat → Nat}
/-- each vertex but the target has a neighbour that is nearer to it -/
def Near (n : Nat) (ps : List (Nat × Nat)) (t : Nat) (d : Nat → Nat) : Prop := d t = 0 ∧ (∀ v, v < n → d v ≤ 3) ∧ ∀ v, v < n → v ≠ t → ∃ w, w < n ∧ adj ps v w = true ∧ d w + 1 = d v
theorem few_4 (hn : n = 4) (ht : t < n) {d : Nat → Nat} (hd : Near n ps t d) (h : Bad n ps t f) : (cfgF n f).sum ≤ 8 := by
  obtain ⟨L, hp, hs, hl, hnd⟩ := order_of ht d
  obtain ⟨a, b, c, rfl⟩ : ∃ a b c, L = [a, b, c] := by
    match L, hl with
    | [a, b, c], _ => exact ⟨a, b, c, rfl⟩
    | [], hl => simp at hl; omega
    | [_], hl => simp at hl; omega
    | [_, _], hl => simp at hl; omega
    | _ :: _ :: _ :: _ :: _, hl => simp at hl; omega
  have hmem : ∀ v, v < n → v = t ∨ v = a ∨ v = b ∨ v = c := fun v hv => by
    have := hp.mem_iff.mp (List.mem_range.mpr hv)
    simpa using this
  have hlt : ∀ v, v = a ∨ v = b ∨ v = c → v < n := fun v hv => List.mem_range.mp (hp.mem_iff.mpr (by
    rcases hv with rfl | rfl | rfl <;> simp))
  have ha := hlt a (by simp)
  have hb := hlt b (by simp)
  have hc := hlt c (by simp)
  simp only [List.nodup_cons, List.mem_cons, List.not_mem_nil, not_or, or_false] at hnd
  obtain ⟨⟨ta, tb, tc⟩, ⟨ab, ac⟩, bc, _⟩ := hnd
  simp only [List.pairwise_cons, List.mem_cons, List.not_mem_nil, forall_eq_or_imp, or_false] at hs
  have dab : d b ≤ d a := hs.1.1
  have dbc : d c ≤ d b := hs.2.1 c rfl
  have dac : d c ≤ d a := by omega
  obtain ⟨d0, d3, hw⟩ := hd
  obtain ⟨wa, ha1, ha2, ha3⟩ := hw a ha (Ne.symm ta)
  obtain ⟨wb, hb1, hb2, hb3⟩ := hw b hb (Ne.symm tb)
  obtain ⟨wc, hc1, hc2, hc3⟩ := hw c hc (Ne.symm tc)
  have hsum : (cfgF n f).sum = f t + (f a + (f b + f c)) := by
    have := perm_sum (hp.map f)
    simp only [List.map_cons, List.map_nil, List.sum_cons, List.sum_nil] at this
    unfold cfgF
    omega
  have hwc : wc = t := by
    rcases hmem wc hc1 with e | e | e | e
    · exact e
    all_goals (subst e; omega)
  have hwb : wb = t ∨ wb = c := by
    rcases hmem wb hb1 with e | e | e | e
    · exact .inl e
    · subst e; omega
    · subst e; omega
    · exact .inr e
  have hwa : wa = t ∨ wa = b ∨ wa = c := by
    rcases hmem wa ha1 with e | e | e | e
    · exact .inl e
    · subst e; omega
    · exact .inr (.inl e)
    · exact .inr (.inr e)
  have z0 := bad_zero ht h
  have B1 := bad_shift ha ha1 (by intro e; rw [← e] at ha3; omega) ha2 h (k := f a / 2) (by omega)
  have B2 := bad_shift hb hb1 (by intro e; rw [← e] at hb3; omega) hb2 B1 (k := sh f a wa (f a / 2) b / 2) (by omega)
  have B3 := bad_shift hc hc1 (by intro e; rw [← e] at hc3; omega) hc2 B2 (k := sh (sh f a wa (f a / 2)) b wb (sh f a wa (f a / 2) b / 2) c / 2) (by omega)
  have z := bad_zero ht B3
  clear B1 B2 B3 h hp hmem hlt
  rcases hwb with e2 | e2 <;> rcases hwa with e1 | e1 | e1
  all_goals
    simp [sh, hwc, e1, e2, ta, tb, tc, ab, ac, bc, Ne.symm ta, Ne.symm tb, Ne.symm tc, Ne.symm ab, Ne.symm ac, Ne.symm bc] at z
    omega
end
end Rub
/-! Five vertices; the number that is enough. -/
namespace Rub
section
variable {n t : Nat} {ps : List (Nat × Nat)} {f : Nat → Nat}
theorem few_5 (hn : n = 5) (ht : t < n) {d : Nat → Nat} (hd : Near n ps t d) (h : Bad n ps t f) : (cfgF n f).sum ≤ 8 := by
  obtain ⟨L, hp, hs, hl, hnd⟩ := order_of ht d
  obtain ⟨a, b, c, e, rfl⟩ : ∃ a b c e, L = [a, b, c, e] := by
    match L, hl with
    | [a, b, c, e], _ => exact ⟨a, b, c, e, rfl⟩
    | [], hl => simp at hl; omega
    | [_], hl => simp at hl; omega
    | [_, _], hl => simp at hl; omega
    | [_, _, _], hl => simp at hl; omega
    | _ :: _ :: _ :: _ :: _ :: _, hl => simp at hl; omega
  have hmem : ∀ v, v < n → v = t ∨ v = a ∨ v = b ∨ v = c ∨ v = e := fun v hv => by
    have := hp.mem_iff.mp (List.mem_range.mpr hv)
    simpa using this
  have hlt : ∀ v, v = a ∨ v = b ∨ v = c ∨ v = e → v < n := fun v hv => List.mem_range.mp (hp.mem_iff.mpr (by
    rcases hv with rfl | rfl | rfl | rfl <;> simp))
  have ha := hlt a (by simp)
  have hb := hlt b (by simp)
  have hc := hlt c (by simp)
  have he := hlt e (by simp)
  simp only [List.nodup_cons, List.mem_cons, List.not_mem_nil, not_or, or_false] at hnd
  obtain ⟨⟨ta, tb, tc, te⟩, ⟨ab, ac, ae⟩, ⟨bc, be⟩, ce, _⟩ := hnd
  simp only [List.pairwise_cons, List.mem_cons, List.not_mem_nil, forall_eq_or_imp, or_false] at hs
  have dab : d b ≤ d a := hs.1.1
  have dbc : d c ≤ d b := hs.2.1.1
  have dce : d e ≤ d c := hs.2.2.1 e rfl
  obtain ⟨d0, d3, hw⟩ := hd
  have d3a := d3 a ha
  obtain ⟨wa, ha1, ha2, ha3⟩ := hw a ha (Ne.symm ta)
  obtain ⟨wb, hb1, hb2, hb3⟩ := hw b hb (Ne.symm tb)
  obtain ⟨wc, hc1, hc2, hc3⟩ := hw c hc (Ne.symm tc)
  obtain ⟨we, he1, he2, he3⟩ := hw e he (Ne.symm te)
  have hsum : (cfgF n f).sum = f t + (f a + (f b + (f c + f e))) := by
    have := perm_sum (hp.map f)
    simp only [List.map_cons, List.map_nil, List.sum_cons, List.sum_nil] at this
    unfold cfgF
    omega
  have hwe : we = t := by
    rcases hmem we he1 with z | z | z | z | z
    · exact z
    all_goals (subst z; omega)
  have hwc : wc = t ∨ wc = e := by
    rcases hmem wc hc1 with z | z | z | z | z
    · exact .inl z
    · subst z; omega
    · subst z; omega
    · subst z; omega
    · exact .inr z
  have hwb : wb = t ∨ wb = c ∨ wb = e := by
    rcases hmem wb hb1 with z | z | z | z | z
    · exact .inl z
    · subst z; omega
    · subst z; omega
    · exact .inr (.inl z)
    · exact .inr (.inr z)
  have hwa : wa = t ∨ wa = b ∨ wa = c ∨ wa = e := by
    rcases hmem wa ha1 with z | z | z | z | z
    · exact .inl z
    · subst z; omega
    · exact .inr (.inl z)
    · exact .inr (.inr (.inl z))
    · exact .inr (.inr (.inr z))
  have z0 := bad_zero ht h
  have B1 := bad_shift ha ha1 (by intro z; rw [← z] at ha3; omega) ha2 h (k := f a / 2) (by omega)
  have B2 := bad_shift hb hb1 (by intro z; rw [← z] at hb3; omega) hb2 B1 (k := sh f a wa (f a / 2) b / 2) (by omega)
  have B3 := bad_shift hc hc1 (by intro z; rw [← z] at hc3; omega) hc2 B2 (k := sh (sh f a wa (f a / 2)) b wb (sh f a wa (f a / 2) b / 2) c / 2) (by omega)
  have B4 := bad_shift he he1 (by intro z; rw [← z] at he3; omega) he2 B3 (k := sh (sh (sh f a wa (f a / 2)) b wb (sh f a wa (f a / 2) b / 2)) c wc (sh (sh f a wa (f a / 2)) b wb (sh f a wa (f a / 2) b / 2) c / 2) e / 2) (by omega)
  have z := bad_zero ht B4
  clear B1 B2 B3 B4 h hp hmem hlt
  rcases hwc with e3 | e3 <;> rcases hwb with e2 | e2 | e2 <;> rcases hwa with e1 | e1 | e1 | e1
  all_goals
    first
      | (rw [hwe] at he3; rw [e3] at hc3; rw [e2] at hb3; rw [e1] at ha3; exfalso; omega)
      | (simp [sh, hwe, e1, e2, e3, ta, tb, tc, te, ab, ac, ae, bc, be, ce, Ne.symm ta, Ne.symm tb, Ne.symm tc, Ne.symm te, Ne.symm ab, Ne.symm ac, Ne.symm ae, Ne.symm bc, Ne.symm be, Ne.symm ce] at z
         omega)
/-- some number up to 10 does it, at or below the program's own end -/
theorem enough {D : Nat} (hn1 : 1 ≤ n) (hn : n ≤ 5) (ht : t < n) (hDn : D < n) (hD3 : D ≤ 3) (hD : ∀ v, v < n → ∃ k, k ≤ D ∧ At n ps t v k) :
    ∃ k, 1 ≤ k ∧ k ≤ (n - 1) * (2 ^ D - 1) + 1 ∧ k ≤ 10 ∧ unsolv (Ks577.successors ⟨n, ps⟩) n t k = [] := by
  have badOf : ∀ {p : Nat} {c : Cfg}, c ∈ unsolv (Ks577.successors ⟨n, ps⟩) n t p → Bad n ps t (fun v => c.getD v 0) ∧ (cfgF n (fun v => c.getD v 0)).sum = p := fun {p c} hc => by
    obtain ⟨h1, h2⟩ := mem_configurations.mp (unsolv_conf hc)
    have e := cfgF_of h1
    unfold Bad
    rw [e, h2]
    exact ⟨hc, rfl⟩
  have most : unsolv (Ks577.successors ⟨n, ps⟩) n t ((n - 1) * (2 ^ D - 1) + 1) = [] := by
    refine List.eq_nil_iff_forall_not_mem.mpr fun c hc => ?_
    obtain ⟨h1, h2⟩ := badOf hc
    have := bad_sum ht hD h1
    omega
  by_cases h10 : (n - 1) * (2 ^ D - 1) + 1 ≤ 10
  · exact ⟨_, by omega, Nat.le_refl _, h10, most⟩
  · have near : Near n ps t (fun v => (Ks577.distance ⟨n, ps⟩ t v).getD 0) := by
      have val : ∀ v k, At n ps t v k → (Ks577.distance ⟨n, ps⟩ t v).getD 0 = k := fun v k hk => by
        rw [(distance_is ht).mpr hk]
        rfl
      refine ⟨val t 0 (At.zero.mpr rfl), fun v hv => ?_, fun v hv hne => ?_⟩
      · obtain ⟨k, hk, ha⟩ := hD v hv
        show (Ks577.distance ⟨n, ps⟩ t v).getD 0 ≤ 3
        rw [val v k ha]
        omega
      · obtain ⟨k, hk, ha⟩ := hD v hv
        cases k with
        | zero => exact absurd (At.zero.mp ha) hne
        | succ k =>
          obtain ⟨w, hw, haw, hA⟩ := ha.prev ht
          refine ⟨w, hw, by rw [adj_comm]; exact haw, ?_⟩
          show (Ks577.distance ⟨n, ps⟩ t w).getD 0 + 1 = (Ks577.distance ⟨n, ps⟩ t v).getD 0
          rw [val w k hA, val v (k + 1) ha]
    have hn45 : n = 4 ∨ n = 5 := by
      have h : n = 1 ∨ n = 2 ∨ n = 3 ∨ n = 4 ∨ n = 5 := by omega
      rcases h with rfl | rfl | rfl | h | h
      · omega
      · have hD1 : D = 0 ∨ D = 1 := by omega
        rcases hD1 with rfl | rfl <;> omega
      · have hD1 : D = 0 ∨ D = 1 ∨ D = 2 := by omega
        rcases hD1 with rfl | rfl | rfl <;> omega
      · exact .inl h
      · exact .inr h
    refine ⟨9, by omega, by omega, by omega, List.eq_nil_iff_forall_not_mem.mpr fun c hc => ?_⟩
    obtain ⟨h1, h2⟩ := badOf hc
    rcases hn45 with h | h
    · have := few_4 h ht near h1
      omega
    · have := few_5 h ht near h1
      omega
end
end Rub
/-! Distances as the program finds them; rubbling_number and savings are what the specification tells. -/
namespace Rub
def isNext (gr : Gr) (known : List (Option Nat)) (v d : Nat) : Bool := (gr.getD v []).any fun o => known.getD o none == some d
def innerStep (gr : Gr) (d : Nat) (known : List (Option Nat)) (v : Nat) : List (Option Nat) := if (known.getD v none == none && isNext gr known v d) = true then known.set v (some (d + 1)) else known
def turnD (gr : Gr) (known : List (Option Nat)) (d : Nat) : List (Option Nat) := (List.range gr.length).foldl (innerStep gr d) known
def initD (m start : Nat) : List (Option Nat) := (List.range m).map fun v => if v = start then some 0 else none
def distancesL (gr : Gr) (start : Nat) : List (Option Nat) := (List.range gr.length).foldl (turnD gr) (initD gr.length start)
theorem inner_len (gr : Gr) (d : Nat) (known : List (Option Nat)) (v : Nat) : (innerStep gr d known v).length = known.length := by
  unfold innerStep
  split
  · exact List.length_set ..
  · rfl
theorem innerF_len (gr : Gr) (d : Nat) : ∀ (l : List Nat) (known : List (Option Nat)), (l.foldl (innerStep gr d) known).length = known.length
  | [], _ => rfl
  | v :: l, known => by rw [List.foldl_cons, innerF_len gr d l, inner_len]
theorem turn_len (gr : Gr) (known : List (Option Nat)) (d : Nat) : (turnD gr known d).length = known.length := innerF_len gr d _ known
theorem turnF_len (gr : Gr) : ∀ (l : List Nat) (known : List (Option Nat)), (l.foldl (turnD gr) known).length = known.length
  | [], _ => rfl
  | d :: l, known => by rw [List.foldl_cons, turnF_len gr l, turn_len]
theorem distances_len (gr : Gr) (start : Nat) : (distancesL gr start).length = gr.length := by
  unfold distancesL
  rw [turnF_len]
  simp [initD]
theorem getO_set {l : List (Option Nat)} {i j : Nat} {x : Option Nat} (h : i < l.length) : (l.set i x).getD j none = if i = j then x else l.getD j none := by
  rw [List.getD_eq_getElem?_getD, List.getElem?_set]
  by_cases e : i = j
  · subst e
    simp [h]
  · simp [e]
section
variable {n : Nat} {ps : List (Nat × Nat)}
/-- one turn's vertices up to m -/
theorem inner_at {K : List (Option Nat)} {d : Nat} (hK : K.length = n) : ∀ (m : Nat), m ≤ n → ∀ v, ((List.range m).foldl (innerStep (graphOf n ps) d) K).getD v none =
    if v < m ∧ K.getD v none = none ∧ ∃ o ∈ nbrs n ps v, K.getD o none = some d then some (d + 1) else K.getD v none
  | 0, _, v => by
    rw [if_neg (fun z => Nat.not_lt_zero v z.1)]
    rfl
  | m + 1, hm, v => by
    have ih := inner_at (K := K) (d := d) hK m (by omega)
    rw [List.range_succ, List.foldl_append]
    show (innerStep (graphOf n ps) d ((List.range m).foldl (innerStep (graphOf n ps) d) K) m).getD v none = _
    have hlen : ((List.range m).foldl (innerStep (graphOf n ps) d) K).length = n := by rw [innerF_len, hK]
    generalize (List.range m).foldl (innerStep (graphOf n ps) d) K = F at ih hlen
    have hFm : F.getD m none = K.getD m none := by rw [ih m, if_neg (fun z => Nat.lt_irrefl m z.1)]
    have hgr : (graphOf n ps).getD m [] = nbrs n ps m := by rw [List.getD_eq_getElem?_getD, graphOf_get (by omega)]; rfl
    have hnext : isNext (graphOf n ps) F m d = true ↔ ∃ o ∈ nbrs n ps m, K.getD o none = some d := by
      unfold isNext
      rw [hgr, List.any_eq_true]
      constructor
      · rintro ⟨o, ho, e⟩
        have e := eq_of_beq e
        rw [ih o] at e
        split at e
        · exact absurd (Option.some.inj e) (by omega)
        · exact ⟨o, ho, e⟩
      · rintro ⟨o, ho, e⟩
        refine ⟨o, ho, ?_⟩
        rw [ih o, if_neg (fun z => by rw [e] at z; exact absurd z.2.1 (by simp)), e]
        exact beq_self_eq_true _
    unfold innerStep
    by_cases hc : (F.getD m none == none && isNext (graphOf n ps) F m d) = true
    · rw [if_pos hc, getO_set (by omega)]
      rw [Bool.and_eq_true] at hc
      have h1 : K.getD m none = none := by rw [← hFm]; exact eq_of_beq hc.1
      have h2 := hnext.mp hc.2
      by_cases e : m = v
      · subst e
        rw [if_pos rfl, if_pos ⟨by omega, h1, h2⟩]
      · rw [if_neg e, ih v]
        by_cases hv : v < m ∧ K.getD v none = none ∧ ∃ o ∈ nbrs n ps v, K.getD o none = some d
        · rw [if_pos hv, if_pos ⟨by omega, hv.2⟩]
        · rw [if_neg hv, if_neg (fun z => hv ⟨by omega, z.2⟩)]
    · rw [if_neg hc, ih v]
      by_cases hv : v < m ∧ K.getD v none = none ∧ ∃ o ∈ nbrs n ps v, K.getD o none = some d
      · rw [if_pos hv, if_pos ⟨by omega, hv.2⟩]
      · rw [if_neg hv, if_neg (fun z => by
          by_cases e : v = m
          · subst e
            apply hc
            rw [Bool.and_eq_true]
            exact ⟨by rw [hFm, z.2.1]; rfl, hnext.mpr z.2.2⟩
          · exact hv ⟨by omega, z.2⟩)]
/-- behind k turns -/
theorem turns_at {u : Nat} (hu : u < n) : ∀ (k : Nat), ∀ v j, v < n → (((List.range k).foldl (turnD (graphOf n ps)) (initD n u)).getD v none = some j ↔ j ≤ k ∧ At n ps u v j)
  | 0, v, j, hv => by
    show (initD n u).getD v none = some j ↔ _
    unfold initD
    rw [List.getD_eq_getElem?_getD, List.getElem?_map, List.getElem?_range hv]
    show (if v = u then some 0 else none) = some j ↔ _
    by_cases e : v = u
    · rw [if_pos e]
      constructor
      · intro h
        have := Option.some.inj h
        subst this
        exact ⟨Nat.le_refl _, At.zero.mpr e⟩
      · rintro ⟨h, _⟩
        rw [show j = 0 by omega]
    · rw [if_neg e]
      constructor
      · intro h; cases h
      · rintro ⟨h, ha⟩
        rw [show j = 0 by omega] at ha
        exact absurd (At.zero.mp ha) e
  | k + 1, v, j, hv => by
    have ih := turns_at hu k
    rw [List.range_succ, List.foldl_append]
    show (turnD (graphOf n ps) ((List.range k).foldl (turnD (graphOf n ps)) (initD n u)) k).getD v none = some j ↔ _
    have hlen : ((List.range k).foldl (turnD (graphOf n ps)) (initD n u)).length = n := by rw [turnF_len]; simp [initD]
    generalize (List.range k).foldl (turnD (graphOf n ps)) (initD n u) = K at ih hlen
    unfold turnD
    rw [graphOf_length, inner_at hlen n (Nat.le_refl _) v]
    have hnone : K.getD v none = none ↔ ∀ i, i ≤ k → ¬ At n ps u v i := by
      constructor
      · intro h i hi ha
        rw [(ih v i hv).mpr ⟨hi, ha⟩] at h
        cases h
      · intro h
        cases e : K.getD v none with
        | none => rfl
        | some i =>
          obtain ⟨a, b⟩ := (ih v i hv).mp e
          exact absurd b (h i a)
    by_cases hc : v < n ∧ K.getD v none = none ∧ ∃ o ∈ nbrs n ps v, K.getD o none = some k
    · rw [if_pos hc]
      obtain ⟨_, h1, o, ho, hok⟩ := hc
      rw [mem_nbrs] at ho
      obtain ⟨_, hA⟩ := (ih o k ho.1).mp hok
      have hAv : At n ps u v (k + 1) := by
        refine ⟨mem_step.mpr ⟨hv, .inr ⟨o, hA.1, by rw [adj_comm]; exact ho.2⟩⟩, fun i hi hm => ?_⟩
        obtain ⟨i', hi', hA'⟩ := At.of_ball hm
        exact (hnone.mp h1) i' (by omega) hA'
      constructor
      · intro h
        have := Option.some.inj h
        subst this
        exact ⟨Nat.le_refl _, hAv⟩
      · rintro ⟨_, h⟩
        rw [hAv.unique h]
    · rw [if_neg hc, ih v j hv]
      constructor
      · rintro ⟨a, b⟩
        exact ⟨by omega, b⟩
      · rintro ⟨a, b⟩
        by_cases e : j = k + 1
        · subst e
          obtain ⟨w, hw, ha, hA⟩ := b.prev hu
          refine absurd ⟨hv, hnone.mpr fun i hi hAi => ?_, w, mem_nbrs.mpr ⟨hw, by rw [adj_comm]; exact ha⟩, (ih w k hw).mpr ⟨Nat.le_refl _, hA⟩⟩ hc
          have := b.unique hAi
          omega
        · exact ⟨by omega, b⟩
theorem distances_at {u v : Nat} (hu : u < n) (hv : v < n) : (distancesL (graphOf n ps) u).getD v none = Ks577.distance ⟨n, ps⟩ u v := by
  unfold distancesL
  rw [graphOf_length]
  have h := turns_at (ps := ps) hu n v
  cases e : Ks577.distance ⟨n, ps⟩ u v with
  | none =>
    cases e2 : ((List.range n).foldl (turnD (graphOf n ps)) (initD n u)).getD v none with
    | none => rfl
    | some j => exact absurd ((h j hv).mp e2).2 ((distance_none hu).mp e j)
  | some j =>
    have hA := (distance_is hu).mp e
    exact (h j hv).mpr ⟨Nat.le_of_lt (hA.bound hu), hA⟩
theorem distances_is {u : Nat} (hu : u < n) : distancesL (graphOf n ps) u = (List.range n).map fun v => Ks577.distance ⟨n, ps⟩ u v := by
  apply List.ext_getElem?
  intro i
  by_cases hi : i < n
  · have h1 := distances_at (ps := ps) hu hi
    have hl : i < (distancesL (graphOf n ps) u).length := by rw [distances_len, graphOf_length]; exact hi
    rw [List.getElem?_map, List.getElem?_range hi, List.getElem?_eq_getElem hl]
    rw [List.getD_eq_getElem?_getD, List.getElem?_eq_getElem hl] at h1
    exact congrArg some h1
  · rw [List.getElem?_eq_none (by rw [distances_len, graphOf_length]; omega), List.getElem?_eq_none (by simp; omega)]
end
def connectedL (gr : Gr) : Bool := !(distancesL gr 0).contains none
def widest (l : List (Option Nat)) : Nat := (l.map fun d => d.getD 0).foldl max 0
def diameterL (gr : Gr) : Nat := ((List.range gr.length).map fun u => widest (distancesL gr u)).foldl max 0
section
variable {n : Nat} {ps : List (Nat × Nat)}
theorem connected_is (hn : 1 ≤ n) : connectedL (graphOf n ps) = Ks578.isConnected ⟨n, ps⟩ := by
  unfold connectedL Ks578.isConnected
  rw [distances_is hn, Bool.eq_iff_iff]
  simp only [Bool.not_eq_true', ← Bool.not_eq_true, List.contains_iff_mem, List.all_eq_true, List.mem_map, List.mem_range, not_exists, not_and]
  constructor
  · intro h v hv
    cases e : Ks577.distance ⟨n, ps⟩ 0 v with
    | none => exact absurd e (h v hv)
    | some k => rfl
  · intro h v hv e
    have := h v hv
    rw [e] at this
    cases this
theorem foldl_nested {α : Type} (F : α → List Nat) : ∀ (L : List α), (L.map fun x => (F x).foldl max 0).foldl max 0 = (L.flatMap F).foldl max 0 := fun L => by
  obtain ⟨a1, a2, a3⟩ := foldl_max_spec (L.flatMap F) 0
  refine foldl_max_unique a1 (fun x hx => ?_) ?_
  · obtain ⟨y, hy, rfl⟩ := List.mem_map.mp hx
    obtain ⟨b1, b2, b3⟩ := foldl_max_spec (F y) 0
    rcases b3 with h | h
    · rw [h]; exact Nat.zero_le _
    · exact a2 _ (List.mem_flatMap.mpr ⟨y, hy, h⟩)
  · rcases a3 with h | h
    · exact .inl h
    · obtain ⟨y, hy, hm⟩ := List.mem_flatMap.mp h
      obtain ⟨b1, b2, b3⟩ := foldl_max_spec (F y) 0
      have h1 := b2 _ hm
      refine .inr (List.mem_map.mpr ⟨y, hy, ?_⟩)
      refine Nat.le_antisymm ?_ h1
      rcases b3 with h3 | h3
      · rw [h3]; exact Nat.zero_le _
      · exact a2 _ (List.mem_flatMap.mpr ⟨y, hy, h3⟩)
theorem diameter_is : diameterL (graphOf n ps) = Ks578.diameter ⟨n, ps⟩ := by
  unfold diameterL Ks578.diameter
  rw [graphOf_length, ← foldl_nested]
  congr 1
  apply List.map_congr_left
  intro u hu
  unfold widest
  rw [distances_is (List.mem_range.mp hu), List.map_map]
  rfl
theorem dist_le_diam {u v k : Nat} (hu : u < n) (hv : v < n) (h : At n ps u v k) : k ≤ Ks578.diameter ⟨n, ps⟩ := by
  unfold Ks578.diameter
  refine (foldl_max_spec _ 0).2.1 k (List.mem_flatMap.mpr ⟨u, List.mem_range.mpr hu, List.mem_map.mpr ⟨v, List.mem_range.mpr hv, ?_⟩⟩)
  rw [(distance_is hu).mpr h]
  rfl
theorem diam_lt (hn : 1 ≤ n) : Ks578.diameter ⟨n, ps⟩ < n := by
  unfold Ks578.diameter
  rcases (foldl_max_spec ((List.range n).flatMap fun u => (List.range n).map fun v => (Ks577.distance ⟨n, ps⟩ u v).getD 0) 0).2.2 with h | h
  · show ((List.range n).flatMap fun u => (List.range n).map fun v => (Ks577.distance ⟨n, ps⟩ u v).getD 0).foldl max 0 < n
    omega
  · obtain ⟨u, hu, hm⟩ := List.mem_flatMap.mp h
    obtain ⟨v, hv, e⟩ := List.mem_map.mp hm
    show ((List.range n).flatMap fun u => (List.range n).map fun v => (Ks577.distance ⟨n, ps⟩ u v).getD 0).foldl max 0 < n
    rw [← e]
    cases e2 : Ks577.distance ⟨n, ps⟩ u v with
    | none => exact hn
    | some k => exact ((distance_is (List.mem_range.mp hu)).mp e2).bound (List.mem_range.mp hu)
theorem all_at (hn : 1 ≤ n) (hc : Ks578.isConnected ⟨n, ps⟩ = true) {t : Nat} (ht : t < n) : ∀ v, v < n → ∃ k, k ≤ Ks578.diameter ⟨n, ps⟩ ∧ At n ps t v k := by
  have from0 : ∀ v, v < n → ∃ k, v ∈ ball n ps 0 k := fun v hv => by
    have := List.all_eq_true.mp hc v (List.mem_range.mpr hv)
    cases e : Ks577.distance ⟨n, ps⟩ 0 v with
    | none => rw [e] at this; cases this
    | some k => exact ⟨k, ((distance_is hn).mp e).1⟩
  intro v hv
  obtain ⟨k1, h1⟩ := from0 t ht
  obtain ⟨k2, h2⟩ := from0 v hv
  have h3 := ball_comp ht (ball_symm hn h1) h2
  obtain ⟨j, _, hA⟩ := At.of_ball h3
  exact ⟨j, dist_le_diam ht hv hA, hA⟩
end
/-! ### the answers -/
def enoughN (n d : Nat) : Nat := (n - 1) * (2 ^ d - 1) + 1
def narrow (n t : Nat) (es : List Nat) : Option Int :=
  if graphOk n es = true then
    if connectedL (graphOf n (edgesOf es)) = true then
      if diameterL (graphOf n (edgesOf es)) ≤ 3 then
        if t < n then none else some (-2)
      else some (-75)
    else some (-33)
  else some (-22)
def rubN (n t : Nat) (es : List Nat) : Nat := leastNumber n t (rubMoves (graphOf n (edgesOf es))) (enoughN n (diameterL (graphOf n (edgesOf es))))
def pebN (n t : Nat) (es : List Nat) : Nat := leastNumber n t (pebMoves (graphOf n (edgesOf es))) (enoughN n (diameterL (graphOf n (edgesOf es))))
def rubblingL (n t : Nat) (es : List Nat) : List Int := match narrow n t es with
  | some z => [z]
  | none => [(rubN n t es : Int)]
def savingsL (n t : Nat) (es : List Nat) : List Int := match narrow n t es with
  | some z => [z]
  | none => [(pebN n t es : Int) - (rubN n t es : Int)]
theorem firstOf_le {U U' : Nat → Bool} {most : Nat} (h : ∀ k, U k = true → U' k = true) : firstOf U' most ≤ firstOf U most := by
  unfold firstOf
  cases e : (List.range most).find? (fun k => decide (1 ≤ k) && U k) with
  | none =>
    cases e2 : (List.range most).find? (fun k => decide (1 ≤ k) && U' k) with
    | none => exact Nat.le_refl _
    | some j =>
      have := List.mem_range.mp (List.mem_of_find?_eq_some e2)
      show j ≤ most
      omega
  | some k =>
    rw [List.find?_range_eq_some] at e
    obtain ⟨e1, e2, e3⟩ := e
    rw [Bool.and_eq_true] at e1
    have hp : (fun k => decide (1 ≤ k) && U' k) k = true := by
      show (decide (1 ≤ k) && U' k) = true
      rw [e1.1, h k e1.2]
      rfl
    obtain ⟨j, hj, a, b⟩ := least_of (p := fun k => decide (1 ≤ k) && U' k) hp
    rw [find_range (p := fun k => decide (1 ≤ k) && U' k) (Nat.lt_of_le_of_lt hj (List.mem_range.mp e2)) a b]
    exact hj
section
variable {n t : Nat} {ps : List (Nat × Nat)}
theorem numbers_is (hn1 : 1 ≤ n) (hn : n ≤ 5) (ht : t < n) (hc : Ks578.isConnected ⟨n, ps⟩ = true) (hd : Ks578.diameter ⟨n, ps⟩ ≤ 3) :
    Ks581.rubblingNumber ⟨n, ps⟩ t = some (leastNumber n t (rubMoves (graphOf n ps)) (enoughN n (diameterL (graphOf n ps)))) ∧
    Ks578.pebblingNumber ⟨n, ps⟩ t = some (leastNumber n t (pebMoves (graphOf n ps)) (enoughN n (diameterL (graphOf n ps)))) ∧
    leastNumber n t (rubMoves (graphOf n ps)) (enoughN n (diameterL (graphOf n ps))) ≤ leastNumber n t (pebMoves (graphOf n ps)) (enoughN n (diameterL (graphOf n ps))) := by
  rw [leastNumber_is (S := Ks581.successors ⟨n, ps⟩) (fun c d => mem_behind) (rubMoves_in n ps), leastNumber_is (S := Ks577.successors ⟨n, ps⟩) (fun c d => mem_behind_peb) (pebMoves_in n ps), diameter_is]
  obtain ⟨k, k1, k2, k3, hk⟩ := enough hn1 hn ht (diam_lt hn1) hd (all_at hn1 hc ht)
  have sub : ∀ k, (unsolv (Ks577.successors ⟨n, ps⟩) n t k).isEmpty = true → (unsolv (Ks581.successors ⟨n, ps⟩) n t k).isEmpty = true := fun k h => by
    rw [List.isEmpty_iff] at h ⊢
    refine List.eq_nil_iff_forall_not_mem.mpr fun c hc => ?_
    have := unsolv_sub k c hc
    rw [h] at this
    exact absurd this List.not_mem_nil
  have hkp : (unsolv (Ks577.successors ⟨n, ps⟩) n t k).isEmpty = true := by rw [hk]; rfl
  refine ⟨?_, ?_, firstOf_le sub⟩
  · rw [← firstOf_is (U := fun k => (unsolv (Ks581.successors ⟨n, ps⟩) n t k).isEmpty) (most := enoughN n (Ks578.diameter ⟨n, ps⟩)) k1 k2 k3 (sub k hkp)]
    unfold Ks581.rubblingNumber
    show (List.range 11).find? _ = _
    congr 1
    funext p
    rw [unsolv_rub]
  · rw [← firstOf_is (U := fun k => (unsolv (Ks577.successors ⟨n, ps⟩) n t k).isEmpty) (most := enoughN n (Ks578.diameter ⟨n, ps⟩)) k1 k2 k3 hkp]
    unfold Ks578.pebblingNumber
    show (List.range 11).find? _ = _
    congr 1
    funext p
    rw [unsolv_peb]
end
theorem rub_spec (n t : Nat) (es : List Nat) : PyKs581.rubbling_number n t (ofNats es) = rubblingL n t es := by
  show Ks581Neutral.integers (Ks581.answer (.rubblingNumber n t ((ofNats es).map Int.toNat))) = _
  rw [toNat_ofNats]
  unfold Ks581.answer Ks578.withSmallDiameter Ks577.withGraph rubblingL narrow
  simp only []
  rw [parseGraph_eq]
  by_cases hg : graphOk n es = true
  · rw [if_pos hg, if_pos hg]
    obtain ⟨hn1, hn5⟩ := graphOk_le hg
    rw [connected_is hn1]
    simp only []
    by_cases hc : Ks578.isConnected ⟨n, edgesOf es⟩ = true
    · rw [if_pos hc, if_neg (by rw [hc]; simp)]
      by_cases hd : Ks578.diameter ⟨n, edgesOf es⟩ ≤ 3
      · rw [diameter_is, if_pos hd, if_neg (by omega)]
        by_cases ht : t < n
        · rw [if_pos ht, if_neg (by omega), (numbers_is hn1 hn5 ht hc hd).1]
          rfl
        · rw [if_neg ht, if_pos (by omega)]
          rfl
      · rw [diameter_is, if_neg hd, if_pos (by omega)]
        rfl
    · rw [if_neg hc, if_pos (by simpa using hc)]
      rfl
  · rw [if_neg hg, if_neg hg]
    rfl
theorem sav_spec (n t : Nat) (es : List Nat) : PyKs581.savings n t (ofNats es) = savingsL n t es := by
  show Ks581Neutral.integers (Ks581.answer (.savings n t ((ofNats es).map Int.toNat))) = _
  rw [toNat_ofNats]
  unfold Ks581.answer Ks578.withSmallDiameter Ks577.withGraph savingsL narrow
  simp only []
  rw [parseGraph_eq]
  by_cases hg : graphOk n es = true
  · rw [if_pos hg, if_pos hg]
    obtain ⟨hn1, hn5⟩ := graphOk_le hg
    rw [connected_is hn1]
    simp only []
    by_cases hc : Ks578.isConnected ⟨n, edgesOf es⟩ = true
    · rw [if_pos hc, if_neg (by rw [hc]; simp)]
      by_cases hd : Ks578.diameter ⟨n, edgesOf es⟩ ≤ 3
      · rw [diameter_is, if_pos hd, if_neg (by omega)]
        by_cases ht : t < n
        · obtain ⟨h1, h2, h3⟩ := numbers_is hn1 hn5 ht hc hd
          rw [if_pos ht, if_neg (by omega)]
          unfold Ks581.savings
          rw [h1, h2]
          show [((leastNumber n t (pebMoves (graphOf n (edgesOf es))) (enoughN n (diameterL (graphOf n (edgesOf es)))) - leastNumber n t (rubMoves (graphOf n (edgesOf es))) (enoughN n (diameterL (graphOf n (edgesOf es)))) : Nat) : Int)] = [(pebN n t es : Int) - (rubN n t es : Int)]
          unfold pebN rubN
          rw [Int.ofNat_sub h3]
        · rw [if_neg ht, if_pos (by omega)]
          rfl
      · rw [diameter_is, if_neg hd, if_pos (by omega)]
        rfl
    · rw [if_neg hc, if_pos (by simpa using hc)]
      rfl
  · rw [if_neg hg, if_neg hg]
    rfl
end Rub
/-! Words for the walk: what stands for a list of naturals, promises of defs by name, comprehensions as maps, sum and enumerate of a tuple. -/
namespace RW
open PySem PySem.Spec PyProof.Rows L2 Rub

/-! ### naturals, tuples of naturals -/
def ivs (l : List Nat) : List V := l.map fun (n : Nat) => V.int (n : Int)
theorem ivs_len (l : List Nat) : (ivs l).length = l.length := List.length_map ..
theorem ivs_get {l : List Nat} {i : Nat} (h : i < l.length) : (ivs l)[i]? = some (.int ((l.getD i 0 : Nat) : Int)) := by
  unfold ivs
  rw [List.getElem?_map, List.getElem?_eq_getElem h, List.getD_eq_getElem?_getD, List.getElem?_eq_getElem h]
  rfl
theorem ivs_at {l : List Nat} {i : Nat} (h : i < l.length) : atI (ivs l) (i : Int) = some (.int ((l.getD i 0 : Nat) : Int)) := atI_nat (ivs_get h)
theorem ivs_set (l : List Nat) (i k : Nat) : (ivs l).set i (.int (k : Int)) = ivs (l.set i k) := by
  unfold ivs
  rw [List.map_set]
theorem ivs_ints (l : List Nat) : ivs l = (ofNats l).map V.int := by
  unfold ivs ofNats
  rw [List.map_map]
  rfl
theorem ofNats_sum : ∀ l : List Nat, (ofNats l).sum = (l.sum : Int)
  | [] => rfl
  | a :: l => by
    show ((a : Int) :: ofNats l).sum = _
    rw [List.sum_cons, ofNats_sum l, List.sum_cons]
    omega
theorem ixN_nat {n i : Nat} (h : i < n) : ixN n (i : Int) = some i := by
  unfold ixN
  rw [if_pos (by omega), if_pos (by omega)]
  rfl
/-- v is a tuple of these naturals -/
def IsT (H : Hp) (v : V) (l : List Nat) : Prop := ∃ a, v = .ref a ∧ H a = some (.tup (ivs l))

/-! ### heaps -/
def SameT (H H' : Hp) : Prop := ∀ a xs, H a = some (.tup xs) → H' a = some (.tup xs)
theorem SameT.refl (H : Hp) : SameT H H := fun _ _ h => h
theorem SameT.trans {H H1 H2 : Hp} (a : SameT H H1) (b : SameT H1 H2) : SameT H H2 := fun c xs h => b c xs (a c xs h)
theorem Same.t {H H' : Hp} (s : Same H H') : SameT H H' := fun a xs h => s a _ h
theorem sameT_upd {H : Hp} {a : Addr} {o : HO} (h : ∀ xs, H a ≠ some (.tup xs)) : SameT H (upd H a o) := fun b xs e => by
  by_cases hb : b = a
  · subst hb; exact absurd e (h xs)
  · rw [upd_ne hb]; exact e
theorem same_new {H : Hp} {p : Addr} {o : HO} (h : H p = none) : Same H (upd H p o) := fun b x e => by
  rw [upd_ne (ne_of_none e h)]
  exact e
theorem Same.upd {H H' : Hp} {p : Addr} {o : HO} (s : Same H H') (h : H p = none) : Same H (upd H' p o) := fun b x e => by
  rw [upd_ne (ne_of_none e h)]
  exact s b x e
theorem none_of {H H' : Hp} {p : Addr} (s : Same H H') (h : H' p = none) : H p = none := by
  cases q : H p with
  | none => rfl
  | some o => rw [s p o q] at h; cases h
def Mono {α : Type} (R : Hp → V → α → Prop) : Prop := ∀ (H H' : Hp) (v : V) (x : α), SameT H H' → R H v x → R H' v x
theorem mono_T : Mono IsT := fun _ _ _ _ s ⟨a, e, h⟩ => ⟨a, e, s a _ h⟩
def RN (_ : Hp) (v : V) (n : Nat) : Prop := v = .int (n : Int)
def RB (_ : Hp) (v : V) (b : Bool) : Prop := v = .bl b
theorem mono_N : Mono RN := fun _ _ _ _ _ h => h
theorem mono_B : Mono RB := fun _ _ _ _ _ h => h
abbrev AllR {α : Type} (R : Hp → V → α → Prop) (H : Hp) (vs : List V) (xs : List α) : Prop := Paired (R H) vs xs
theorem AllR.mono {α : Type} {R : Hp → V → α → Prop} (m : Mono R) {H H' : Hp} {vs : List V} {xs : List α} (s : SameT H H') (h : AllR R H vs xs) : AllR R H' vs xs := Paired.mapP h fun _ _ q => m _ _ _ _ s q
theorem AllR.get {α : Type} {R : Hp → V → α → Prop} {H : Hp} {vs : List V} {xs : List α} (h : AllR R H vs xs) : ∀ {i : Nat} {v : V} {x : α}, vs[i]? = some v → xs[i]? = some x → R H v x := by
  induction h with
  | nil => intro i v x h1; simp at h1
  | cons r t ih =>
    intro i v x h1 h2
    cases i with
    | zero => simp at h1 h2; subst h1 h2; exact r
    | succ i => exact ih (by simpa using h1) (by simpa using h2)
theorem AllR.at {α : Type} {R : Hp → V → α → Prop} {H : Hp} {vs : List V} {xs : List α} (h : AllR R H vs xs) {i : Nat} {x : α} (e : xs[i]? = some x) : ∃ v, vs[i]? = some v ∧ R H v x := by
  have hl := Paired.length h
  have hi := (List.getElem?_eq_some_iff.mp e).1
  exact ⟨vs[i], List.getElem?_eq_getElem (by omega), h.get (List.getElem?_eq_getElem (by omega)) e⟩
theorem AllR.append {α : Type} {R : Hp → V → α → Prop} {H : Hp} {vs us : List V} {xs ys : List α} (h : AllR R H vs xs) (k : AllR R H us ys) : AllR R H (vs ++ us) (xs ++ ys) := by
  induction h with
  | nil => exact k
  | cons r t ih => exact .cons r ih
theorem AllR.nats {H : Hp} {vs : List V} {xs : List Nat} (h : AllR RN H vs xs) : vs = ivs xs := by
  induction h with
  | nil => rfl
  | cons r t ih => rw [ih, show _ = _ from r]; rfl
theorem AllR.of_nats {H : Hp} : ∀ xs : List Nat, AllR RN H (ivs xs) xs
  | [] => .nil
  | x :: xs => .cons rfl (AllR.of_nats xs)
theorem AllR.bools {H : Hp} {vs : List V} {xs : List Bool} (h : AllR RB H vs xs) : vs = xs.map V.bl := by
  induction h with
  | nil => rfl
  | cons r t ih => rw [ih, show _ = _ from r]; rfl
theorem AllR.of_bools {H : Hp} : ∀ xs : List Bool, AllR RB H (xs.map V.bl) xs
  | [] => .nil
  | x :: xs => .cons rfl (AllR.of_bools xs)
/-- v is a tuple | a list of what R tells -/
def IsTs {α : Type} (R : Hp → V → α → Prop) (H : Hp) (v : V) (xs : List α) : Prop := ∃ a vs, v = .ref a ∧ H a = some (.tup vs) ∧ AllR R H vs xs
def IsLs {α : Type} (R : Hp → V → α → Prop) (H : Hp) (v : V) (xs : List α) : Prop := ∃ a vs, v = .ref a ∧ H a = some (.lst vs) ∧ AllR R H vs xs
theorem mono_Ts {α : Type} {R : Hp → V → α → Prop} (m : Mono R) : Mono (IsTs R) := fun _ _ _ _ s ⟨a, vs, e, h, r⟩ => ⟨a, vs, e, s a _ h, AllR.mono m s r⟩
theorem IsLs.same {α : Type} {R : Hp → V → α → Prop} (m : Mono R) {H H' : Hp} {v : V} {xs : List α} (s : Same H H') (h : IsLs R H v xs) : IsLs R H' v xs := by
  obtain ⟨a, vs, e, h, r⟩ := h
  exact ⟨a, vs, e, s a _ h, AllR.mono m (Same.t s) r⟩
theorem q_bl {Q : VK} {H : Hp} {a b : Bool} (e : a = b) (q : Q (.bl b) H) : Q (.bl a) H := by rw [e]; exact q
theorem q_int {Q : VK} {H : Hp} {a b : Int} (e : a = b) (q : Q (.int b) H) : Q (.int a) H := by rw [e]; exact q
theorem dec_eq {p q : Prop} [Decidable p] [Decidable q] (h : p ↔ q) : decide p = decide q := by
  by_cases hp : p
  · rw [decide_eq_true hp, decide_eq_true (h.mp hp)]
  · rw [decide_eq_false hp, decide_eq_false (fun z => hp (h.mpr z))]
theorem line_le {n : Nat} (h : n ≤ 1000000) : n ≤ sizeLine := Nat.le_trans h (by decide)
theorem line_lt {n : Nat} (h : n ≤ 1000000) : n < sizeLine := Nat.lt_of_le_of_lt h (by decide)

/-! ### a comprehension is a map of what is kept -/
theorem lc_map {α β : Type} {J : It} {n : Nat} {G : Hp → Prop} {Y : Nat → Hp → V → Hp → Prop} (w : Walk J n G Y) {R : Hp → V → α → Prop} (mR : Mono R) (xs : List β) (hn : xs.length = n) (hz : n ≤ 1000000) (keep : β → Bool) (f : β → α)
    {g : TG} {tt : TT} {te : TE} {vs : List Nat} {σ : L2.St} {H1 : Hp} {D : Addr} {Qd : Hp → Prop} (hD : H1 D = none) (hG : ∀ H, Same H1 H → G H)
    (hs : ∀ (i : Nat) (b : β) (x : V) (H H' : Hp) (K : V → Hp → Prop) (K0 : Hp → Prop), xs[i]? = some b → Same H1 H → Y i H x H' →
      (keep b = true → ∀ y H4, Same H H4 → R H4 y (f b) → K y H4) → (keep b = false → ∀ H4, Same H H4 → K0 H4) →
      g x (wipe σ vs) H' fun σ2 H2 => wipe σ2 vs = wipe σ vs ∧ tt σ2 H2 fun c H3 => if c = true then te σ2 H3 K else K0 H3)
    (hd : ∀ H acc, Same H1 H → H D = some (.lst acc) → AllR R H acc ((xs.filter keep).map f) → Qd H) :
    ∃ W : Nat → Nat → Hp → Prop, (∃ m, W 0 m (upd H1 D (.lst []))) ∧ ∀ i m H, W i m H →
      (J.stop i H ∧ Qd H) ∨ (J.go i H ∧ ∃ Nx : Hp → Prop, (∀ H', Nx H' → ∃ m', m' < m ∧ W (i + 1) m' H') ∧ ∀ x H', J.yld i H x H' → g x (wipe σ vs) H' fun σ2 H2 => wipe σ2 vs = wipe σ vs ∧ tt σ2 H2 fun b H3 =>
        if b = true then te σ2 H3 fun y H4 => ∃ acc, H4 D = some (.lst acc) ∧ acc.length < sizeLine ∧ Nx (upd H4 D (.lst (acc ++ [y]))) else Nx H3) := by
  refine lc_it w (fun i H => Same H1 H ∧ ∃ acc, H D = some (.lst acc) ∧ AllR R H acc (((xs.take i).filter keep).map f)) ⟨same_new hD, [], upd_same, .nil⟩ (fun i H _ p => hG H p.1) ?_ ?_
  · rintro i x H H' hi ⟨s1, acc, hacc, ha⟩ hy
    have hix : i < xs.length := by omega
    have hb : xs[i]? = some xs[i] := List.getElem?_eq_getElem hix
    have htake : xs.take (i + 1) = xs.take i ++ [xs[i]] := by rw [List.take_add_one, hb]; rfl
    have hlen : acc.length ≤ i := by
      rw [Paired.length ha, List.length_map]
      exact Nat.le_trans (List.length_filter_le _ _) (by rw [List.length_take]; omega)
    refine hs i xs[i] x H H' _ _ hb s1 hy (fun hk y H4 s4 r => ⟨acc, s4 _ _ hacc, line_lt (by omega), Same.upd (s1.trans s4) hD, acc ++ [y], upd_same, ?_⟩) (fun hk H4 s4 => ⟨s1.trans s4, acc, s4 _ _ hacc, ?_⟩)
    · have hT : SameT H4 (upd H4 D (.lst (acc ++ [y]))) := sameT_upd fun xs e => by rw [s4 _ _ hacc] at e; cases e
      rw [htake, List.filter_append, List.map_append]
      refine AllR.append (AllR.mono mR ((Same.t s4).trans hT) ha) ?_
      rw [List.filter_cons, if_pos hk]
      exact .cons (mR _ _ _ _ hT r) .nil
    · rw [htake, List.filter_append, List.map_append]
      have e0 : ([xs[i]] : List β).filter keep = [] := by rw [List.filter_cons, if_neg (by rw [hk]; exact Bool.false_ne_true)]; rfl
      rw [e0, List.map_nil, List.append_nil]
      exact AllR.mono mR (Same.t s4) ha
  · rintro H ⟨s1, acc, hacc, ha⟩
    rw [← hn, List.take_length] at ha
    exact hd H acc s1 hacc ha
theorem all_keep {α : Type} (l : List α) : l.filter (fun _ => true) = l := List.filter_eq_self.mpr fun _ _ => rfl

/-! ### defs by their names -/
section
variable {P : Program} {w : World} {K : PySem.W.Frag} {mg : Str → Option Value} {base : Heap}
/-- the def st of the text stands for x -/
def DefAt (K : PySem.W.Frag) (mg : Str → Option Value) (x : Str) (st : Stmt) (ps : List Str) : Prop := ∃ f fd, Fun K x x st f fd ∧ mg x = some (.ref f) ∧ Binds K fd ps []
/-- what stands for x keeps the promise -/
def Has (P : Program) (w : World) (K : PySem.W.Frag) (mg : Str → Option Value) (base : Heap) (CX : CXT) (k : Nat) (x : Str) (ps : List Str) (sp : Sp) : Prop :=
  ∃ f fd, FnOk P w K mg base CX k f fd ps sp ∧ mg x = some (.ref f) ∧ PySem.W.keepIn K (.ref f) = true ∧ Binds K fd ps []
theorem Has.mono {CX : CXT} {j k : Nat} {x : Str} {ps : List Str} {sp : Sp} (h : Has P w K mg base CX j x ps sp) (l : j ≤ k) : Has P w K mg base CX k x ps sp := by
  obtain ⟨f, fd, F, a⟩ := h
  exact ⟨f, fd, F.mono l, a⟩
theorem has_of {x : Str} {st : Stmt} {N ps : List Str} {k : Nat} {sp : Sp} (D : DefAt K mg x st ps) (S : FnScope N ps (defScope st)) (len : ∀ vs H Q E, sp vs H Q E → vs.length = ps.length)
    (hbody : ∀ (f : Addr) (cdv : Value) (A : Around) (outer : List Env) (s : Shared) (H : Hp) (vs : List V) (Q : VK) (E : XK), Room k (A.deeper (envOfC x (defScope st) s.heap.objs.size f cdv)) → sp vs H Q E →
      ∃ t, PSs (cxOf CX0 P w K mg base N x (defScope st) f cdv A outer s H E).nox (defBody st) t ∧ t { nx := fun _ H' => Q .non H', rt := Q } (start N vs) H) : Has P w K mg base CX0 (k + 1) x ps sp := by
  obtain ⟨f, fd, F, hm, hb⟩ := D
  exact ⟨f, fd, F.ok S len (hbody f), hm, F.kp, hb⟩
theorem has_ofX {x : Str} {st : Stmt} {N ps : List Str} {k : Nat} {sp : Sp} (D : DefAt K mg x st ps) (S : FnScope N ps (defScope st)) (len : ∀ vs H Q E, sp vs H Q E → vs.length = ps.length)
    (hbody : ∀ (f : Addr) (cdv : Value) (A : Around) (outer : List Env) (s : Shared) (H : Hp) (vs : List V) (Q : VK) (E : XK), Room k (A.deeper (envOfC x (defScope st) s.heap.objs.size f cdv)) → sp vs H Q E →
      ∃ t, PSs (cxOf (L2.CX P w) P w K mg base N x (defScope st) f cdv A outer s H E) (defBody st) t ∧ t { nx := fun _ H' => Q .non H', rt := Q } (start N vs) H) : Has P w K mg base (L2.CX P w) (k + 1) x ps sp := by
  obtain ⟨f, fd, F, hm, hb⟩ := D
  exact ⟨f, fd, F.okX S len (hbody f), hm, F.kp, hb⟩
end
section
variable {X : Cx} {k : Nat} {ps : List Str} {sp : Sp} {x : Str} {p pos : Pos} {e : Expr} {es : List Expr} {t : TA}
/-- f(..), nothing raised -/
theorem pe_f (c : Has X.prog X.w X.K X.mg X.base CX0 k x ps sp) (hr : Room k X.A) (ha : PA X (e :: es) t) (hg : Gl X x := by rfl)
    (hdb : (x == ("__debug__" : Str)) = false := by decide) (he : starEach (e :: es) X.env = (false, eval e X.env) :: starEach es X.env := by rfl) (hpl : (backTo pos (starEach es X.env)).any (·.1) = false := by rfl) :
    PE X (.Call (.Name x p) (e :: es) [] pos) (tCall sp [] E0 t) := by
  obtain ⟨f, fd, F, hm, hk, hb⟩ := c
  exact pe_call F hr hg hm hk hb .nil pass0 ha hdb he hpl
/-- f(..), what it raises leaves this def, too -/
theorem pe_fX {E : XK} (c : Has X.prog X.w X.K X.mg X.base (L2.CX X.prog X.w) k x ps sp) (hr : Room k X.A) (tk : Takes X (fun cls d _ H => E cls d H)) (ha : PA X (e :: es) t) (hg : Gl X x := by rfl)
    (hdb : (x == ("__debug__" : Str)) = false := by decide) (he : starEach (e :: es) X.env = (false, eval e X.env) :: starEach es X.env := by rfl) (hpl : (backTo pos (starEach es X.env)).any (·.1) = false := by rfl) :
    PE X (.Call (.Name x p) (e :: es) [] pos) (tCall sp [] E t) := by
  obtain ⟨f, fd, F, hm, hk, hb⟩ := c
  exact pe_call F hr hg hm hk hb .nil (passes_call tk fun _ _ _ _ h => h) ha hdb he hpl
/-- f(..) within a try -/
theorem pe_fS {W : WX} (c : Has X.prog X.w X.K X.mg X.base (L2.CX X.prog X.w) k x ps sp) (hr : Room k X.A) (tk : Takes X W) (ha : PA X (e :: es) t) (hg : Gl X x := by rfl)
    (hdb : (x == ("__debug__" : Str)) = false := by decide) (he : starEach (e :: es) X.env = (false, eval e X.env) :: starEach es X.env := by rfl) (hpl : (backTo pos (starEach es X.env)).any (·.1) = false := by rfl) :
    PE X (.Call (.Name x p) (e :: es) [] pos) (tCallS sp (WE W) t) := by
  obtain ⟨f, fd, F, hm, hk, hb⟩ := c
  exact pe_callS F hr hg hm hk hb (fun σ => passAt tk σ) ha hdb he hpl
/-- a constant of the text -/
def ConAt (mg : Str → Option Value) (x : Str) (z : Int) : Prop := ∃ t, mg x = some (.int z t)
theorem pe_con_at {z : Int} (h : ConAt X.mg x z) (hg : Gl X x := by rfl) (hd : (x == ("__debug__" : Str)) = false := by decide) : PE X (.Name x pos) (tC (.int z)) := by
  obtain ⟨t, h⟩ := h
  exact pe_glob hg h ⟨_, rfl⟩ hd
end

/-! ### sum of a tuple -/
def rSumT (K : PySem.W.Frag) : List V → Hp → VK → Prop := fun vs H Q => ∃ (a : Addr) (ns : List Int), vs = [V.ref a] ∧ SqT K H a (ns.map V.int) ∧ Q (.int ns.sum) H
theorem cr_sumT {X : Cx} (hc : X.calm = true) : CallR X (.builtin "sum") (rSumT X.K) := by
  intro pins s σ H vs us Q I r h
  obtain ⟨a, ns, rfl, hs, q⟩ := h
  obtain ⟨its, rv, hl, _⟩ := I.tuple hs
  rw [Vals.ref1 r]
  have hi := rv.ints
  obtain ⟨xs, e⟩ := hi.allInts.items
  have hn : numsOf (intItems xs).toList = ns := by rw [← e]; exact hi.numsOf
  rw [nums_intItems] at hn
  rw [e] at hl
  refine PySem.W.ktm_sumG (I.ok.hd hc) hl fun h' tk t' hk => ?_
  rw [preSum_eq, List.take_of_length_le (by simp), hn]
  exact ⟨.int _, H, I.kept hk, ⟨_, rfl⟩, q⟩

/-! ### enumerate of a tuple -/
section
open AutoSeq1 (wpAny_loadPart')
theorem meets_enumerate_newT (l : Addr) (items : Array Value) (n : Nat) (dct : Option Addr) (sl : Array (Option Value)) :
    Meets (Builtin.«enumerate.__new__» ⟨[.type "enumerate", .ref l], []⟩) (fun _ R s => s.heap.get? l = some { cls := .type "tuple", data := .seq items n, dict := dct, slots := sl } ∧
      R (.ok (.ret (.ref (s.heap.push { cls := .type "tuple_iterator", data := .fields #[.ref l, .int 0 0] }).objs.size)))
        { s with heap := (s.heap.push { cls := .type "tuple_iterator", data := .fields #[.ref l, .int 0 0] }).push { cls := .type "enumerate", data := .fields #[.none, .bool false, .ref s.heap.objs.size, rawInt 0, .none, .none] } }) :=
  .of_wp fun prog w A R s h => by
    obtain ⟨hp, g, d, tk, os⟩ := s; obtain ⟨hl, h⟩ := h
    have hsub := sub_enumerate
    have hL : Heap.IsTuple (Shared.heap ⟨hp, g, d, tk, os⟩) l items := ⟨_, hl, rfl, n, rfl⟩
    wp_walk using wpAny_loadPart' hl
    refine wpAny_stack_any fun st => wpAny_pure ?_
    split
    · rename_i c _ _ _ _ _
      cases (c == Value.type "enumerate")
      · wp_walk using wpAny_loadPart' hl, wpAny_pyIter_tuple hL
        exact ⟨_, rfl, h⟩
      · wp_walk using wpAny_loadPart' hl, wpAny_pyIter_tuple hL
        exact ⟨_, rfl, h⟩
    · wp_walk using wpAny_loadPart' hl, wpAny_pyIter_tuple hL
      exact ⟨_, rfl, h⟩
end
theorem call_enumerate_tuple {prog : Program} {w : World} {A : Around} {E : Value → Shared → Prop} {s : Shared} {l : Addr} {items : Array Value} {Q : Value → Shared → Prop} (hL : IsTup s.heap l items)
    (h : ∀ h', IsEnum h' (s.heap.objs.size + 1) s.heap.objs.size 0 .none → h'.IsTupleIter s.heap.objs.size l 0 → h'.objs.size = s.heap.objs.size + 2 →
      (∀ b o, s.heap.get? b = some o → h'.get? b = some o) → Q (.ref (s.heap.objs.size + 1)) { s with heap := h' }) :
    wpAny (model prog w) A (call (.type "enumerate") [.ref l]) Q E s := by
  obtain ⟨⟨c, dct, dt, sl⟩, hl, hc, n, hd⟩ := hL
  replace hc : c = .type "tuple" := hc
  replace hd : dt = .seq items n := hd
  subst hc hd
  refine callType_new F.called_enumerate (by decide) (F.typeCall_enumerate_1 _) (F.newCall_enumerate_1 _) (fun obj => F.args_object_init_2 obj _) F.entry_enumerate_new
    (meets_enumerate_newT l items n dct sl) ⟨hl, ?_⟩
  have hz : (s.heap.push { cls := .type "tuple_iterator", data := .fields #[.ref l, .int 0 0] }).objs.size = s.heap.objs.size + 1 := Heap.size_push ..
  show _ ∧ _
  rw [hz]
  have he : IsEnum ((s.heap.push { cls := .type "tuple_iterator", data := .fields #[.ref l, .int 0 0] }).push
      { cls := .type "enumerate", data := .fields #[.none, .bool false, .ref s.heap.objs.size, rawInt 0, .none, .none] }) (s.heap.objs.size + 1) s.heap.objs.size 0 .none := by
    have := Heap.get?_push_size (s.heap.push { cls := .type "tuple_iterator", data := .fields #[.ref l, .int 0 0] })
      (o := { cls := .type "enumerate", data := .fields #[.none, .bool false, .ref s.heap.objs.size, rawInt 0, .none, .none] }) rfl
    rw [hz] at this; exact this
  refine ⟨⟨_, he, rfl⟩, h _ he ⟨_, Heap.get?_push_of_some _ (Heap.get?_push_size _ rfl), rfl, rfl⟩ (by rw [Heap.size_push, hz]) fun b o x => Heap.get?_push_of_some _ (Heap.get?_push_of_some _ x)⟩
/-- the tuple at a, each item in a new pair -/
def Itet (K : PySem.W.Frag) (a : Addr) : It :=
  ⟨fun i H => ∃ (xs : List V) (x : V), SqT K H a xs ∧ xs[i]? = some x, fun i H v H' => ∃ T x, v = .ref T ∧ H T = none ∧ H' = upd H T (.tup [.int (i : Nat), x]) ∧ ∀ xs, SqT K H a xs → xs[i]? = some x, fun i H => ∃ xs : List V, SqT K H a xs ∧ xs.length ≤ i⟩
theorem turn_enumT {P : Program} {w : World} {K : PySem.W.Frag} {elts : List Expr} {kk : Nat} {tpos : Pos} (a e it : Addr) :
    Turn P w K (.Tuple elts kk tpos) (Itet K a) [e, it] e (fun i h => (∃ old, IsEnum h e it ((i : Nat) : Int) old) ∧ h.IsTupleIter it a i ∧ e ≠ it) where
  mem := by simp
  obj := fun i h st b hb => by
    obtain ⟨⟨old, he⟩, ⟨o, ho, hc, hd⟩, _⟩ := st
    have e' : b = e ∨ b = it := by simpa using hb
    rcases e' with z | z
    · rw [z]; exact ⟨_, he, fun v q => nomatch q⟩
    · rw [z]; exact ⟨o, ho, fun v q => by rw [hd] at q; cases q⟩
  keep := fun i h h' st k => let ⟨⟨old, he⟩, hi, hne⟩ := st; ⟨⟨old, k e (by simp) _ he⟩, hi.at fun o q => k it (by simp) o q, hne⟩
  item := by
    intro X hP hw hK hc i pins s σ H E I hf st hg
    subst hP hw hK
    obtain ⟨⟨old, he⟩, hit, hne⟩ := st
    obtain ⟨xs, x, hq, hx⟩ := hg
    obtain ⟨its, rv, p, hz⟩ := I.tuple hq
    obtain ⟨u, hu, ru⟩ := rv.get hx
    have hel : e < s.heap.objs.size := Heap.lt_size he
    have hil : it < s.heap.objs.size := by obtain ⟨_, q, _⟩ := hit; exact Heap.lt_size q
    have hai : a ≠ it := fun z => by
      obtain ⟨o1, e1, c1, _⟩ := hit
      obtain ⟨o2, e2, c2, _⟩ := p
      rw [z, e1] at e2
      cases e2
      rw [c1] at c2
      exact absurd (Value.type.inj c2) (by decide)
    have hae : e ∉ [it, a] := fun z => by
      rcases List.mem_cons.mp z with z | z
      · exact hne z
      · have z := List.mem_singleton.mp z
        obtain ⟨o2, e2, c2, _⟩ := p
        rw [← z, he] at e2
        cases e2
        exact absurd (Value.type.inj c2) (by decide)
    have D := PySem.Draws.tuple (prog := X.prog) (w := X.w) (A := X.A.in1) (I.ok.hd hc) it a hai its.toArray
    have hin : i < its.toArray.size := by
      have := (List.getElem?_eq_some_iff.mp hu).1
      simpa using this
    refine wpAny_pyNext_enum_itemD D he ⟨hit, p⟩ hin hne hae fun x' h' tk hx' ho hst' hT hsz hk => ?_
    have ex : x' = u := by
      have hx'' : its[i]? = some x' := by simpa using hx'
      rw [hu] at hx''
      exact (Option.some.inj hx'').symm
    subst ex
    refine ⟨_, rfl, wpAny_letOwnedTupleGo_enum (s := { s with heap := h', toks := tk + 1 }) ho fun h'' he' sb => ?_⟩
    have hT2 : h''.get? s.heap.objs.size = some { cls := .type "tuple", data := .seq #[.int i tk, x'] } := (sb.2 _ (Nat.ne_of_gt hel)).trans hT
    have new : ObjOk X.prog X.w (upd H s.heap.objs.size (.tup [.int (i : Nat), x])) h'' s.heap.objs.size (.tup [.int (i : Nat), x]) :=
      ⟨by show 2 ≤ sizeLine; decide, [.int i tk, x'], .cons ⟨_, rfl⟩ (.cons ru .nil), ⟨_, hT2, rfl, _, rfl⟩⟩
    have I1 : Inv X pins σ (upd H s.heap.objs.size (.tup [.int (i : Nat), x])) { s with heap := h'', toks := tk + 1 } :=
      I.turnedNew (ch := [e, it]) (fun b ob hb q => (sb.2 b (fun z => hb (by simp [z]))).trans (hk b ob (fun z => hb (by simp [z])) (fun z => hb (by simp [z])) q)) hf (Nat.le_refl _) new
    refine ⟨.ref s.heap.objs.size, _, I1, rfl, ⟨_, x, rfl, I.hok.fresh (Nat.le_refl _), rfl, fun ys hy => by rw [I.tuple_inj hy hq]; exact hx⟩, ⟨⟨x', ?_⟩, hst'.1.at fun o q => (sb.2 it (Ne.symm hne)).trans q, hne⟩, fun b hb => ?_⟩
    · have e1 : ((i + 1 : Nat) : Int) = (i : Int) + 1 := by omega
      rw [e1]; exact he'
    · have hb' : b < s.heap.objs.size := by
        have e' : b = e ∨ b = it := by simpa using hb
        rcases e' with z | z
        · rw [z]; exact hel
        · rw [z]; exact hil
      rw [upd_ne (Nat.ne_of_lt hb')]
      exact (hf b hb).1
  done := by
    intro X hP hw hK hc i pins s σ H E I hf st hg
    subst hP hw hK
    obtain ⟨⟨old, he⟩, hit, hne⟩ := st
    obtain ⟨xs, hq, hx⟩ := hg
    obtain ⟨its, rv, p, hz⟩ := I.tuple hq
    obtain ⟨f0, f1, f2, f3, f4, f5⟩ := hf it (by simp)
    have hl := rv.length
    have hai : a ≠ it := fun z => by
      obtain ⟨o1, e1, c1, _⟩ := hit
      obtain ⟨o2, e2, c2, _⟩ := p
      rw [z, e1] at e2
      cases e2
      rw [c1] at c2
      exact absurd (Value.type.inj c2) (by decide)
    have hT : s.TypeIs (.ref e) "enumerate" := ⟨_, he, rfl⟩
    unfold pyNext
    refine wpAny_bind (wpAny_attempt (wpAny_callSpecial?_slot (name := Str.ofString "__next__") hT F.slot_enumerate_next
      (wpAny_call_entry F.slot_enumerate_next hT F.entry_enumerate_next ?_ (F.args_enumerate_next_1 _))))
    show wpAny _ _ (field (.ref e) 2 >>= _) _ _ _
    refine wpAny_bind (wpAny_field he rfl (x := .ref it) rfl ?_)
    refine wpAny_bind (wpAny_nextOf_tuple_end (I.ok.hd hc) hit p (by simp; omega) fun h' x he' hx' => ?_)
    obtain ⟨o, ho, hc⟩ := hx'
    refine wpAny_bind (wpAny_isInstance (T := "StopIteration") (b := true) ⟨o, ho, hc⟩ isSubtype_stop ?_)
    exact wpAny_pure ⟨rfl, I.turned (t' := s.toks) (fun b o hb q => he' b o hb q) f0 f1 f3 f4 f5⟩
  self := fun A i s Q E st h => let ⟨⟨_, he⟩, _⟩ := st; wpAny_pyIter_enum he h
def iEnumT (K : PySem.W.Frag) (ta : TA) : TI := fun σ H R => ta σ H fun vs H1 => ∃ a xs, vs = [.ref a] ∧ SqT K H1 a xs ∧ R (Itet K a) H1
theorem pi_enumT {X : Cx} {e : Expr} {ta : TA} {p pos tpos : Pos} {elts : List Expr} {kk : Nat} (hg : Gl X "enumerate") (hm : X.mg "enumerate" = none) (ha : PA X [e] ta) (hs : starEach [e] X.env = [(false, eval e X.env)] := by rfl) :
    PI X (.Tuple elts kk tpos) (.Call (.Name "enumerate" p) [e] [] pos) (iEnumT X.K ta) := by
  refine ⟨fun pins s σ H R I h => ?_⟩
  refine Call_ (ld_blt I hg hm boot_enumerate (PyProof.Rows.callWith_type1 (thn (ha.run pos pins s σ H _ I h) fun us s1 ⟨vs, H1, I1, r1, q1⟩ => ?_) hs rfl))
  obtain ⟨a, xs, ex, hq, q⟩ := q1
  subst ex
  cases r1 with
  | cons r rr =>
    cases rr
    cases r
    obtain ⟨its, rv, p', hz⟩ := I1.tuple hq
    refine call_enumerate_tuple p' fun h' he hit hsz hk => wpAny_pyIter_enum he ?_
    have I2 : Inv X pins σ H1 { s1 with heap := h' } := I1.kept (t' := s1.toks) hk
    refine ⟨s1.heap.objs.size + 1, [s1.heap.objs.size + 1, s1.heap.objs.size], _, _, H1, rfl, I2, turn_enumT a (s1.heap.objs.size + 1) s1.heap.objs.size, ⟨⟨.none, he⟩, hit, Nat.succ_ne_self _⟩, fun b hb => ?_, q⟩
    have e' : b = s1.heap.objs.size + 1 ∨ b = s1.heap.objs.size := by simpa using hb
    have hle : s1.heap.objs.size ≤ b := by
      rcases e' with z | z
      · rw [z]; exact Nat.le_add_right _ _
      · rw [z]; exact Nat.le_refl _
    exact I1.fpOk hle (I1.hok.fresh hle)
theorem walk_enumT {K : PySem.W.Frag} {a : Addr} {xs : List V} : Walk (Itet K a) xs.length (fun H => SqT K H a xs) (YPair (fun i => some (.int (i : Nat))) (fun i => xs[i]?)) := by
  refine ⟨fun i _ hi q => ⟨xs, xs[i], q, by simp [hi]⟩, fun _ q => ⟨xs, q, Nat.le_refl _⟩, fun i H v H' _ q y => ?_⟩
  obtain ⟨T, x, h1, h2, h3, h4⟩ := y
  exact ⟨T, .int (i : Nat), x, h1, h2, h3, rfl, h4 xs q⟩
end RW
/-! Values: membership among naturals, pairs as tuples, the order of pairs, what stands for moves and pairs. -/
namespace RW
open PySem PySem.Spec PyProof.Rows L2 Rub
theorem at_heap {F : Hp → Prop} {H : Hp} (H' : Hp) (e : H = H') (h : F H') : F H := by
  rw [e]
  exact h
theorem ivs_atz {l : List Nat} {z : Int} {i : Nat} (e : z = (i : Int)) (h : i < l.length) : atI (ivs l) z = some (.int ((l.getD i 0 : Nat) : Int)) := by
  rw [e]
  exact ivs_at h
theorem yes_of {σ : L2.St} {H : Hp} {Q : Bool → Hp → Prop} (h : Q true H) : tYes σ H Q := h
/-- readings that bear K, to be named within comprehensions -/
abbrev rLenS (K : PySem.W.Frag) : List V → Hp → VK → Prop := fun xs H Q => ∃ p ys, xs = [.ref p] ∧ (SqL K H p ys ∨ SqT K H p ys) ∧ Q (.int ys.length) H
abbrev rTupOf (K : PySem.W.Frag) : List V → Hp → VK → Prop := fun xs H Q => ∃ p ys, xs = [.ref p] ∧ ((SqL K H p ys ∧ ∀ l, H l = none → Q (.ref l) (upd H l (.tup ys))) ∨ (SqT K H p ys ∧ Q (.ref p) H))
theorem cut_3 {l : List Nat} {i : Nat} {z y : Int} (hz : z = (i : Int)) (hy : y = ((i + 3 : Nat) : Int)) (h : i + 3 ≤ l.length) : cutV (ivs l) (some z) (some y) = ivs [l.getD i 0, l.getD (i + 1) 0, l.getD (i + 2) 0] := by
  subst hz hy
  unfold cutV
  rw [HT.sIx_nat, HT.sIx_nat, ivs_len, show min i l.length = i by omega, show min (i + 3) l.length = i + 3 by omega, show i + 3 - i = 3 by omega]
  unfold ivs
  rw [← List.map_drop, ← List.map_take]
  congr 1
  have e0 : i < l.length := by omega
  have e1 : i + 1 < l.length := by omega
  have e2 : i + 2 < l.length := by omega
  rw [List.drop_eq_getElem_cons e0, List.drop_eq_getElem_cons e1, List.drop_eq_getElem_cons e2, List.getD_eq_getElem?_getD, List.getD_eq_getElem?_getD, List.getD_eq_getElem?_getD, List.getElem?_eq_getElem e0, List.getElem?_eq_getElem e1, List.getElem?_eq_getElem e2]
  rfl
theorem hasP_same {c : Cfg} {f t : Nat} : hasP c (f, f, t) = decide (2 ≤ c.getD f 0) := if_pos rfl
theorem hasP_diff {c : Cfg} {f s t : Nat} (h : f ≠ s) : hasP c (f, s, t) = (decide (1 ≤ c.getD f 0) && decide (1 ≤ c.getD s 0)) := if_neg h
theorem inV_ivs (f : Nat) (l : List Nat) : inV (.int (f : Int)) (ivs l) = l.contains f := by
  unfold inV ivs
  rw [List.any_map, Bool.eq_iff_iff, List.any_eq_true, List.contains_iff_mem]
  constructor
  · rintro ⟨x, hx, e⟩
    have e' : ((x : Int) == (f : Int)) = true := e
    have : x = f := by have := eq_of_beq e'; omega
    subst this; exact hx
  · intro h
    exact ⟨f, h, show ((f : Int) == (f : Int)) = true from beq_self_eq_true _⟩
theorem flat_ivs (l : List Nat) : (ivs l).all flatV = true := by
  unfold ivs
  rw [List.all_map, List.all_eq_true]
  intro x _
  rfl
/-- a move's, a pair's items -/
def ml (m : Mv) : List Nat := [m.1, m.2.1, m.2.2]
def pl (p : Nat × Nat) : List Nat := [p.1, p.2]
def IsM (H : Hp) (v : V) (m : Mv) : Prop := IsT H v (ml m)
def IsP (H : Hp) (v : V) (p : Nat × Nat) : Prop := IsT H v (pl p)
theorem mono_M : Mono IsM := fun _ _ _ _ s h => mono_T _ _ _ _ s h
theorem mono_P : Mono IsP := fun _ _ _ _ s h => mono_T _ _ _ _ s h
theorem lexLt_pl (p q : Nat × Nat) : HT.lexLt (ofNats (pl p)) (ofNats (pl q)) = ltP p q := by
  obtain ⟨a, b⟩ := p
  obtain ⟨c, d⟩ := q
  show (if (a : Int) = (c : Int) then (if (b : Int) = (d : Int) then HT.lexLt [] [] else decide ((b : Int) < (d : Int))) else decide ((a : Int) < (c : Int))) = (decide (a < c) || (a == c && decide (b < d)))
  by_cases h : a = c
  · subst h
    rw [if_pos rfl, decide_eq_false (Nat.lt_irrefl a), Bool.false_or, beq_self_eq_true, Bool.true_and]
    by_cases h2 : b = d
    · subst h2
      rw [if_pos rfl, decide_eq_false (Nat.lt_irrefl b)]
      rfl
    · rw [if_neg (by omega)]
      exact dec_eq (by omega)
  · rw [if_neg (by omega)]
    have : (a == c) = false := by simpa using h
    rw [this, Bool.false_and, Bool.or_false]
    exact dec_eq (by omega)
/-! ### pairs as data -/
def pD (p : Nat × Nat) : PyData := .tuple [.int p.1, .int p.2]
theorem pD_lay (p : Nat × Nat) : (pD p).canLay0 = true := by simp [pD, PyData.canLay0, PyData.canLayAll0]
theorem pD_depth (p : Nat × Nat) : (pD p).depth = 1 := by simp [pD, PyData.depth, PyData.depthAll]
theorem pDs_lay : ∀ ps : List (Nat × Nat), PyData.canLayAll0 (ps.map pD) = true
  | [] => by simp [PyData.canLayAll0]
  | p :: ps => by simp [PyData.canLayAll0, pD_lay p, pDs_lay ps]
theorem pDs_depth : ∀ ps : List (Nat × Nat), PyData.depthAll (ps.map pD) ≤ 1
  | [] => by simp [PyData.depthAll]
  | p :: ps => by
    have h1 := pDs_depth ps
    have h2 := pD_depth p
    simp only [List.map_cons, PyData.depthAll]
    omega
theorem pD_shaped (p : Nat × Nat) : SeqAt.shaped (pD p) = true := by
  have h := pD_depth p
  show ((pD p).canLay0 && decide ((pD p).depth ≤ 64)) = true
  rw [Bool.and_eq_true]
  exact ⟨pD_lay p, decide_eq_true (by omega)⟩
theorem pDs_shaped (ps : List (Nat × Nat)) : SeqAt.shaped (.list (ps.map pD)) = true := by
  have h1 := pDs_depth ps
  have h2 : PyData.depth (.list (ps.map pD)) ≤ 64 := by
    simp only [PyData.depth]
    omega
  show (PyData.canLay0 (.list (ps.map pD)) && decide (PyData.depth (.list (ps.map pD)) ≤ 64)) = true
  rw [Bool.and_eq_true]
  exact ⟨by simp only [PyData.canLay0]; exact pDs_lay ps, decide_eq_true h2⟩
theorem pD_eqv (p q : Nat × Nat) : PyData.eqv (pD p) (pD q) = decide (p = q) := by
  obtain ⟨a, b⟩ := p
  obtain ⟨c, d⟩ := q
  have e : PyData.eqv (pD (a, b)) (pD (c, d)) = (((a : Int) == (c : Int)) && (((b : Int) == (d : Int)) && true)) := by simp only [pD, PyData.eqv, PyData.eqvAll]
  rw [e]
  by_cases h : ((a, b) : Nat × Nat) = (c, d)
  · cases h
    simp
  · rw [decide_eq_false h]
    by_cases h1 : a = c
    · by_cases h2 : b = d
      · exact absurd (by rw [h1, h2]) h
      · have q : ((b : Int) == (d : Int)) = false := beq_eq_false_iff_ne.mpr (by omega)
        rw [q, Bool.false_and, Bool.and_false]
    · have q : ((a : Int) == (c : Int)) = false := beq_eq_false_iff_ne.mpr (by omega)
      rw [q, Bool.false_and]
theorem any_pD (ps : List (Nat × Nat)) (q : Nat × Nat) : ((ps.map pD).any fun z => PyData.eqv z (pD q)) = ps.contains q := by
  rw [List.any_map, Bool.eq_iff_iff, List.any_eq_true, List.contains_iff_mem]
  constructor
  · rintro ⟨x, hx, e⟩
    have e' : PyData.eqv (pD x) (pD q) = true := e
    rw [pD_eqv] at e'
    rw [← of_decide_eq_true e']
    exact hx
  · intro h
    exact ⟨q, h, by show PyData.eqv (pD q) (pD q) = true; rw [pD_eqv]; exact decide_eq_true rfl⟩
theorem dp_T {K : PySem.W.Frag} {H : Hp} {v : V} {p : Nat × Nat} (h : IsP H v p) : Dp K H v (pD p) := by
  obtain ⟨a, rfl, ha⟩ := h
  exact .tup (.inl (.inl ha)) (.cons (.int _) (.cons (.int _) .nil))
theorem dp_Ps {K : PySem.W.Frag} {H : Hp} {vs : List V} {ps : List (Nat × Nat)} (h : AllR IsP H vs ps) : DpAll K H vs (ps.map pD) := by
  induction h with
  | nil => exact .nil
  | cons r t ih => exact .cons (dp_T r) ih
theorem dp_L {K : PySem.W.Frag} {H : Hp} {v : V} {ps : List (Nat × Nat)} (h : IsLs IsP H v ps) : Dp K H v (.list (ps.map pD)) := by
  obtain ⟨a, vs, rfl, ha, r⟩ := h
  exact .lst (.inl (.inl ha)) (dp_Ps r)
theorem Room.u65 {k : Nat} {A : Around} (r : Room k A) : A.units + 65 < cLine := by have := r.un; omega
/-! ### ranges with a step -/
theorem size_2 {n : Nat} : Builtin.Range.rangeSize 0 (n : Int) 2 = (((n + 1) / 2 : Nat) : Int) := by
  rw [rangeSize_pos (by omega) (by omega)]
  omega
theorem size_3 {n : Nat} : Builtin.Range.rangeSize 0 (n : Int) 3 = (((n + 2) / 3 : Nat) : Int) := by
  rw [rangeSize_pos (by omega) (by omega)]
  omega
theorem small_gen {a b c m : Int} (e : Builtin.Range.rangeSize a b c = m) (hc : 0 < c) (ha : -(2 ^ 62) ≤ a) (ha' : a < 2 ^ 62) (hb : -(2 ^ 62) ≤ b) (hb' : b < 2 ^ 62) (hc' : c < 2 ^ 20) (hm : 0 ≤ m) (hm' : m < 2 ^ 20) (h1 : 0 ≤ m * c) (h2 : m * c < 2 ^ 40) : Builtin.Range.small a b c = true := by
  unfold Builtin.Range.small
  rw [e]
  simp only [Builtin.Range.rangeFitsLong, Bool.and_eq_true, Bool.or_eq_true, decide_eq_true_eq, beq_iff_eq, show c > 0 from hc, if_true]
  omega
theorem rgC_2 {n : Nat} (hn : n ≤ 1000000) : RgC 0 (n : Int) 2 ((n + 1) / 2) := ⟨by decide, by decide, small_gen size_2 (by decide) (by decide) (by decide) (by omega) (by omega) (by decide) (by omega) (by omega) (by omega) (by omega), size_2⟩
theorem rgC_3 {n : Nat} (hn : n ≤ 1000000) : RgC 0 (n : Int) 3 ((n + 2) / 3) := ⟨by decide, by decide, small_gen size_3 (by decide) (by decide) (by decide) (by omega) (by omega) (by decide) (by omega) (by omega) (by omega) (by omega), size_3⟩
/-! ### the built-ins' names are free -/
structure Bi (mg : Str → Option Value) : Prop where
  len : mg "len" = none
  range : mg "range" = none
  zip : mg "zip" = none
  all : mg "all" = none
  any : mg "any" = none
  sum : mg "sum" = none
  tuple : mg "tuple" = none
  list : mg "list" = none
  max : mg "max" = none
  enum : mg "enumerate" = none
/-- a def of the text, from what the top has left -/
theorem def_mk {K : PySem.W.Frag} {mg : Str → Option Value} {h : Heap} {x : Str} {st : Stmt} {ps : List Str} {f : Addr} {oc : Value} {od an : Option Addr} {osl : Array (Option Value)} {kV doc pm cdv ct : Value} (X : K.In h) (G : h.Ns mainGlobals mg)
    (a : PySem.W.nsIn K mainGlobals x = some (some (.ref f))) (l : K.lookup f = some ⟨oc, od, .func (PySem.W.fnOf x x (defArgs st) (defBody st) (defScope st) .none kV doc pm an cdv ct), osl⟩) (c : PySem.W.codeIn K cdv x = true) (k : PySem.W.keepIn K (.ref f) = true)
    (hb : ∀ (kV doc pm : Value) (an : Option Addr) (cdv ct : Value) (us : List Value), us.length = ps.length → bindArgs (PySem.W.fnOf x x (defArgs st) (defBody st) (defScope st) .none kV doc pm an cdv ct) ⟨us, []⟩ = pure (ps.zip us)) : DefAt K mg x st ps := by
  have F := fun_mk (st := st) l c k
  exact ⟨f, _, F, PySem.W.mg_of X G a, F.binds hb⟩
theorem exm_self {K : PySem.W.Frag} {S : Addr} (h1 : PySem.W.subIn K (.ref S) (.type "BaseException") = some true) (h2 : PySem.W.isClsIn K S = true) (h3 : PySem.W.typeIn K (.ref S) = some (.type "type")) (h4 : PySem.W.subIn K (.ref S) (.ref S) = some true) :
    PySem.W.exmOne K (.ref S) (.ref S) = some true := by
  have e1 : (PySem.W.subIn K (.ref S) (.type "BaseException") == some true) = true := by rw [h1] <;> rfl
  have e2 : ((PySem.W.clsIn K S).isSome && PySem.W.typeIn K (.ref S) == some (.type "type")) = true := by
    have h2' : (PySem.W.clsIn K S).isSome = true := h2
    rw [h2', h3] <;> rfl
  show (if (PySem.W.subIn K (.ref S) (.type "BaseException") == some true) = true then (if ((PySem.W.clsIn K S).isSome && PySem.W.typeIn K (.ref S) == some (.type "type")) = true then PySem.W.subIn K (.ref S) (.ref S) else none) else none) = some true
  rw [if_pos e1, if_pos e2]
  exact h4
/-- what is refused by the code z -/
def Ref (E : XK) (C : Addr) (H : Hp) (z : Int) : Prop := ∀ d H', Same H H' → H' d = some (.xd [("code", .int z)]) → E (.ref C) (some d) H'
theorem Ref.of {E : XK} {C : Addr} {H H1 : Hp} {z : Int} (r : Ref E C H z) (s : Same H H1) : Ref E C H1 z := fun d H' s' e => r d H' (s.trans s') e
/-- a list of ints, or a refusal by its code -/
def Outs (Q : VK) (E : XK) (C : Addr) (H : Hp) (zs : List Int) : Prop := (∀ p H', Same H H' → H' p = some (.lst (zs.map V.int)) → Q (.ref p) H') ∧ ∀ z, zs = [z] → Ref E C H z
theorem Outs.of {Q : VK} {E : XK} {C : Addr} {H H1 : Hp} {zs : List Int} (o : Outs Q E C H zs) (s : Same H H1) : Outs Q E C H1 zs := ⟨fun p H' s' e => o.1 p H' (s.trans s') e, fun z e => (o.2 z e).of s⟩
theorem code_at (z : Int) : List.lookup ("code" : Str) [(("code" : Str), V.int z)] = some (.int z) := by simp [List.lookup]
theorem edgesOf_at : ∀ (ns : List Nat) (i : Nat) , ns.length % 2 = 0 → i < ns.length / 2 → (edgesOf ns)[i]? = some (ns.getD (2 * i) 0, ns.getD (2 * i + 1) 0)
  | [], i, _, h => by simp at h
  | [_], i, h, _ => by simp at h
  | a :: b :: r, 0, _, _ => rfl
  | a :: b :: r, i + 1, he, h => by
    have ih := edgesOf_at r i (by simp at he; omega) (by simp at h; omega)
    show (edgesOf r)[i]? = _
    rw [ih]
    rfl
theorem edgesOf_length : ∀ (ns : List Nat), ns.length % 2 = 0 → (edgesOf ns).length = ns.length / 2
  | [], _ => rfl
  | [_], h => by simp at h
  | a :: b :: r, he => by
    have ih := edgesOf_length r (by simp at he; omega)
    show (edgesOf r).length + 1 = (r.length + 1 + 1) / 2
    rw [ih]
    omega
theorem edgesOf_range (ns : List Nat) (he : ns.length % 2 = 0) : ((List.range ((ns.length + 1) / 2)).filter fun _ => true).map (fun i => (ns.getD (2 * i) 0, ns.getD (2 * i + 1) 0)) = edgesOf ns := by
  rw [all_keep]
  apply List.ext_getElem?
  intro i
  rw [List.getElem?_map]
  by_cases h : i < ns.length / 2
  · rw [List.getElem?_range (by omega), edgesOf_at ns i he h]
    rfl
  · rw [List.getElem?_eq_none (by simp; omega), List.getElem?_eq_none (by rw [edgesOf_length ns he]; omega)]
    rfl
theorem edgesOf_le : ∀ ns : List Nat, (edgesOf ns).length ≤ ns.length
  | [] => Nat.le_refl _
  | [_] => by simp [edgesOf]
  | a :: b :: r => by
    have := edgesOf_le r
    show (edgesOf r).length + 1 ≤ r.length + 1 + 1
    omega
theorem movesOf_at : ∀ (ns : List Nat) (i : Nat) , ns.length % 3 = 0 → i < ns.length / 3 → (movesOf ns)[i]? = some (ns.getD (3 * i) 0, ns.getD (3 * i + 1) 0, ns.getD (3 * i + 2) 0)
  | [], i, _, h => by simp at h
  | [_], i, h, _ => by simp at h
  | [_, _], i, h, _ => by simp at h
  | a :: b :: c :: r, 0, _, _ => rfl
  | a :: b :: c :: r, i + 1, he, h => by
    have ih := movesOf_at r i (by simp at he; omega) (by simp at h; omega)
    show (movesOf r)[i]? = _
    rw [ih]
    rfl
theorem movesOf_length : ∀ (ns : List Nat), ns.length % 3 = 0 → (movesOf ns).length = ns.length / 3
  | [], _ => rfl
  | [_], h => by simp at h
  | [_, _], h => by simp at h
  | a :: b :: c :: r, he => by
    have ih := movesOf_length r (by simp at he; omega)
    show (movesOf r).length + 1 = (r.length + 1 + 1 + 1) / 3
    rw [ih]
    omega
theorem movesOf_range (ns : List Nat) (he : ns.length % 3 = 0) : ((List.range ((ns.length + 2) / 3)).filter fun _ => true).map (fun i => (ns.getD (3 * i) 0, ns.getD (3 * i + 1) 0, ns.getD (3 * i + 2) 0)) = movesOf ns := by
  rw [all_keep]
  apply List.ext_getElem?
  intro i
  rw [List.getElem?_map]
  by_cases h : i < ns.length / 3
  · rw [List.getElem?_range (by omega), movesOf_at ns i he h]
    rfl
  · rw [List.getElem?_eq_none (by simp; omega), List.getElem?_eq_none (by rw [movesOf_length ns he]; omega)]
    rfl
theorem mem_movesOf : ∀ (ns : List Nat) (n : Nat) (m : Mv), (∀ v ∈ ns, v < n) → m ∈ movesOf ns → m.1 < n ∧ m.2.1 < n ∧ m.2.2 < n
  | [], n, m, _, h => by simp [movesOf] at h
  | [_], n, m, _, h => by simp [movesOf] at h
  | [_, _], n, m, _, h => by simp [movesOf] at h
  | a :: b :: c :: r, n, m, hv, h => by
    rcases List.mem_cons.mp (show m ∈ (a, b, c) :: movesOf r from h) with e | h
    · subst e
      exact ⟨hv a (by simp), hv b (by simp), hv c (by simp)⟩
    · exact mem_movesOf r n m (fun v hvr => hv v (by simp [hvr])) h
end RW
/-! The arguments as naturals. -/
namespace RW
open PySem PySem.Spec PyProof.Rows L2 Rub
open PySem.W (Codec WData)
theorem nat_arg {hi : Int} {z : Int} (h : Codec.within (.int (_root_.Int.ofNat 0) hi) z = true) : ∃ n : Nat, z = (n : Int) := by
  have h : Codec.inInt 0 hi z = true := h
  unfold Codec.inInt at h
  simp only [Bool.and_eq_true, decide_eq_true_eq] at h
  exact ⟨z.toNat, by omega⟩
theorem all_nats {hi : Int} : ∀ {l : List Int}, (l.all (Codec.inInt 0 hi)) = true → ∃ ns : List Nat, l = ofNats ns
  | [], _ => ⟨[], rfl⟩
  | z :: l, h => by
    rw [List.all_cons, Bool.and_eq_true] at h
    obtain ⟨ns, e⟩ := all_nats h.2
    obtain ⟨n, e2⟩ := nat_arg (hi := hi) h.1
    exact ⟨n :: ns, by rw [e, e2]; rfl⟩
theorem nats_arg {most : Nat} {hi : Int} {l : List Int} (h : Codec.within (.list 0 most (.int (_root_.Int.ofNat 0) hi)) l = true) : ∃ ns : List Nat, l = ofNats ns ∧ ns.length ≤ most := by
  have h : (Codec.inNat 0 most l.length && l.all (Codec.inInt 0 hi)) = true := h
  rw [Bool.and_eq_true] at h
  obtain ⟨ns, e⟩ := all_nats h.2
  refine ⟨ns, e, ?_⟩
  have h1 := h.1
  unfold Codec.inNat at h1
  simp only [Bool.and_eq_true, decide_eq_true_eq] at h1
  have : l.length = ns.length := by rw [e]; exact List.length_map ..
  omega
theorem dw_list {K : PySem.W.Frag} {H : Hp} {v : V} {ns : List Nat} (h : Dw K H v (.list ((ofNats ns).map WData.int))) : ∃ a, v = .ref a ∧ SqL K H a (ivs ns) := by
  cases h with
  | lst hs ha =>
    have e := ints_dw _ _ ha
    subst e
    rw [← ivs_ints] at hs
    exact ⟨_, rfl, hs⟩
theorem dw_int {K : PySem.W.Frag} {H : Hp} {v : V} {z : Int} (h : Dw K H v (.int z)) : v = .int z := by
  cases h
  rfl
end RW
/-! Dicts whose keys are configurations. -/
namespace RW
open PySem PySem.Spec PyProof.Rows L2 Rub
def kof (c : Cfg) : List Key := c.map fun (n : Nat) => Sum.inl (n : Int)
theorem kof_map (c : Cfg) : (kof c).map kV = ivs c := by
  unfold kof ivs
  rw [List.map_map]
  rfl
theorem kof_inj : ∀ {a b : Cfg}, kof a = kof b → a = b
  | [], [], _ => rfl
  | [], _ :: _, e => by simp [kof] at e
  | _ :: _, [], e => by simp [kof] at e
  | x :: xs, y :: ys, e => by
    have e : (Sum.inl (x : Int) : Key) :: kof xs = (Sum.inl (y : Int) : Key) :: kof ys := e
    injection e with e1 e2
    have e1 := Sum.inl.inj e1
    rw [show x = y by omega, kof_inj e2]
theorem IsT.key {H : Hp} {v : V} {c : Cfg} (h : IsT H v c) : ∃ b, v = .ref b ∧ H b = some (.tup ((kof c).map kV)) := by
  obtain ⟨b, e, h⟩ := h
  exact ⟨b, e, by rw [kof_map]; exact h⟩
/-- a dict from configurations -/
def kdv (acc : List Cfg) (val : Cfg → V) : List (List Key × V) := acc.map fun c => (kof c, val c)
theorem any_kdv (acc : List Cfg) (val : Cfg → V) (c : Cfg) : ((kdv acc val).any fun kv => decide (kv.1 = kof c)) = decide (c ∈ acc) := by
  unfold kdv
  rw [List.any_map, Bool.eq_iff_iff, List.any_eq_true, decide_eq_true_eq]
  constructor
  · rintro ⟨x, hx, e⟩
    have e : kof x = kof c := of_decide_eq_true e
    rw [← kof_inj e]
    exact hx
  · intro h
    exact ⟨c, h, decide_eq_true rfl⟩
theorem valV_kdv : ∀ (acc : List Cfg) (val : Cfg → V) (c : Cfg), valV (kdv acc val) (kof c) = if c ∈ acc then some (val c) else none
  | [], _, _ => rfl
  | a :: acc, val, c => by
    have ih := valV_kdv acc val c
    by_cases h : a = c
    · subst h
      rw [if_pos (List.mem_cons_self ..)]
      exact valV_pos (p := (kof a, val a)) rfl
    · have hk : ¬ kof a = kof c := fun e => h (kof_inj e)
      show valV ((kof a, val a) :: kdv acc val) (kof c) = _
      rw [valV_neg (p := (kof a, val a)) hk, ih]
      by_cases hm : c ∈ acc
      · rw [if_pos hm, if_pos (List.mem_cons_of_mem _ hm)]
      · rw [if_neg hm, if_neg (fun z => by
          rcases List.mem_cons.mp z with z | z
          · exact h z.symm
          · exact hm z)]
theorem putK_new' {acc : List Cfg} {val : Cfg → V} {c : Cfg} {v : V} (h : c ∉ acc) : putK (kdv acc val) (kof c) v = kdv acc val ++ [(kof c, v)] := by
  refine putK_new v ?_
  rw [valV_kdv, if_neg h]
abbrev kd (acc : List Cfg) : List (List Key × V) := kdv acc fun _ => .bl true
theorem putK_kd (acc : List Cfg) (c : Cfg) : putK (kd acc) (kof c) (.bl true) = kd (addNew acc c) := by
  unfold addNew
  by_cases h : c ∈ acc
  · rw [if_pos h]
    unfold putK
    rw [any_kdv, decide_eq_true h, if_pos rfl]
    unfold kd kdv
    rw [List.map_map]
    apply List.map_congr_left
    intro x _
    show (if kof x = kof c then (kof x, V.bl true) else (kof x, V.bl true)) = (kof x, V.bl true)
    split <;> rfl
  · rw [if_neg h, putK_new' h]
    unfold kd kdv
    rw [List.map_append]
    rfl
theorem kd_len (acc : List Cfg) : (kd acc).length = acc.length := List.length_map ..
theorem isKeys_kd {H : Hp} : ∀ {acc : List Cfg} {bs : List Addr}, IsKeys H (kd acc) bs → AllR IsT H (bs.map V.ref) acc
  | [], bs, h => by cases h; exact .nil
  | c :: acc, bs, h => by
    have h : Paired (fun (p : List Key × V) b => H b = some (.tup (p.1.map kV))) ((kof c, V.bl true) :: kd acc) bs := h
    cases h with
    | cons r t => exact .cons ⟨_, rfl, by rw [← kof_map]; exact r⟩ (isKeys_kd t)
theorem same_of_ne {H H' : Hp} {l : Addr} {o : HO} (s : Same H H') (hl : H l = none) : Same H (upd H' l o) := Same.upd s hl
/-- lists of lists, none of them at l -/
def NotAt {α : Type} (R : Hp → V → α → Prop) (l : Addr) (H : Hp) (v : V) (x : α) : Prop := R H v x ∧ v ≠ .ref l
theorem notAt_upd {α : Type} {R : Hp → V → α → Prop} (m : Mono R) {l : Addr} {o : HO} {H H' : Hp} {vs : List V} {xs : List (List α)} (s : Same H H') (hl : ∀ ys, H' l ≠ some (.tup ys)) (h : AllR (NotAt (IsLs R) l) H vs xs) : AllR (NotAt (IsLs R) l) (upd H' l o) vs xs := by
  refine Paired.mapP h fun v x ⟨r, hne⟩ => ⟨?_, hne⟩
  obtain ⟨a, us, rfl, ha, hr⟩ := r
  have hal : a ≠ l := fun z => hne (by rw [z])
  exact ⟨a, us, rfl, by rw [upd_ne hal]; exact s _ _ ha, AllR.mono m ((Same.t s).trans (sameT_upd hl)) hr⟩
end RW
namespace RW
open PySem PySem.Spec PyProof.Rows L2 Rub
def top (i : Nat) : Stmt := PySem.Challenge.pw_neighbourpairs_s03_rubbling_number.main.body.getD i (.Pass ⟨0, 0, 0, 0⟩)
abbrev s_init : Stmt := inClass (top 17) 0
abbrev s_rubbling_moves : Stmt := top 1
abbrev s_has_pebbles : Stmt := top 2
abbrev s_moved : Stmt := top 3
abbrev s_all_behind : Stmt := top 4
abbrev s_longer_rows : Stmt := top 6
abbrev s_configurations : Stmt := top 7
abbrev s_can_reach : Stmt := top 8
abbrev s_reaching : Stmt := top 9
abbrev s_enough_pebbles : Stmt := top 10
abbrev s_least_number : Stmt := top 11
abbrev s_want : Stmt := top 18
abbrev s_pairs_of : Stmt := top 22
abbrev s_is_rising : Stmt := top 23
abbrev s_are_edges : Stmt := top 24
abbrev s_are_adjacent : Stmt := top 25
abbrev s_neighbours : Stmt := top 26
abbrev s_read_graph : Stmt := top 27
abbrev s_is_next_to : Stmt := top 28
abbrev s_distances : Stmt := top 29
abbrev s_is_connected : Stmt := top 30
abbrev s_diameter : Stmt := top 31
abbrev s_want_target : Stmt := top 34
abbrev s_read_narrow : Stmt := top 35
abbrev s_number_by : Stmt := top 36
abbrev s_rubbling_of : Stmt := top 37
abbrev s_rubbling_number : Stmt := top 39
/-- what the top has written of the error's class -/
structure RefTxt (K : PySem.W.Frag) (mg : Str → Option Value) (C : Addr) : Prop where
  oex : OexC K C
  gC : mg "Refused" = some (.ref C)
  nc : PySem.W.findIn K (.ref C) "code" = some none
  xf : XfC K C
  te : PySem.W.exmOne K (.ref C) (.ref C) = some true
  mV : mg "ValueError" = none
  vV : PySem.W.findCls K (.type "ValueError") (.type "type") "__init__" = some (.val (.builtin "ValueError.__init__"))
  fn : ∃ fI fd, Fun K "__init__" "Refused.__init__" s_init fI fd ∧ L2.Binds K fd ["self", "code"] [] ∧ PySem.W.findIn K (.ref C) "__init__" = some (some (.ref fI)) ∧ PySem.W.typeIn K (.ref fI) = some (.type "function")
section
variable {P : Program} {w : World} {K : PySem.W.Frag} {mg : Str → Option Value} {base : Heap} {C : Addr}
/-! ### init -/
theorem sc_init : FnScope ["self", "code"] ["self", "code"] (defScope s_init) := ⟨rfl, rfl, rfl, by decide +kernel, rfl, by decide +kernel, by decide +kernel⟩
def sp_init (K : PySem.W.Frag) : Sp := fun vs H Q _ => ∃ (a C : Addr) (z : Int), vs = [.ref a, .int z] ∧ OexC K C ∧ PySem.W.findIn K (.ref C) "code" = some none ∧ H a = some (exo a C none) ∧
  ∀ dx, H dx = none → dx ≠ a → Q .non (upd (upd H dx (exd dx [("code", .int z)])) a (exo a C (some dx)))
theorem ok_init {f : Addr} {fd : FuncData} (F : Fun K "__init__" "Refused.__init__" s_init f fd) (mV : mg "ValueError" = none)
    (vV : PySem.W.findCls K (.type "ValueError") (.type "type") "__init__" = some (.val (.builtin "ValueError.__init__"))) : FnOk P w K mg base CX0 1 f fd ["self", "code"] (sp_init K) := by
  refine F.ok sc_init (fun vs H Q E h => ?_) (fun cdv A outer s H vs Q E hr h => ?_)
  · obtain ⟨_, _, _, rfl, _⟩ := h
    rfl
  · obtain ⟨a, C, z, rfl, T, hno, ha, q⟩ := h
    refine ⟨_, pss_cons (ps_expr (pe_veinit rfl mV vV (pa_cons (pv 0) (pa_cons pe_str pa_nil)))) (pss_one (ps_ost (pv 0) (pv 1))), ?_⟩
    exact ⟨_, rfl, a, C, [.str "refused"], rfl, by decide, T, ha, _, rfl, _, rfl, a, C, rfl, T, hno, .inl ⟨ha, fun dx nd ne => q dx nd ne⟩⟩
/-! ### rubbling_moves -/
theorem sc_rubbling_moves : FnScope ["graph", "found", "target", "near", "first", "second"] ["graph"] (defScope s_rubbling_moves) := ⟨rfl, rfl, rfl, by decide +kernel, rfl, by decide +kernel, by decide +kernel⟩
def sp_rubbling_moves : Sp := fun vs H Q _ => ∃ (vg : V) (gr : Gr), vs = [vg] ∧ IsTs IsT H vg gr ∧ SmallGr gr ∧ ∀ v H', Same H H' → IsLs IsM H' v (rubMoves gr) → Q v H'
theorem ok_rubbling_moves (D : DefAt K mg "rubbling_moves" s_rubbling_moves ["graph"]) (B : Bi mg) : Has P w K mg base CX0 1 "rubbling_moves" ["graph"] sp_rubbling_moves := by
  refine has_of D sc_rubbling_moves (fun vs H Q E h => ?_) (fun fa cdv A outer s H vs Q E hr h => ?_)
  · obtain ⟨_, _, rfl, _⟩ := h
    rfl
  · obtain ⟨_, gr, rfl, ⟨g, gs, rfl, hg, rg⟩, hsm, q⟩ := h
    refine ⟨_, pss_cons (ps_set (i := 1) sc_rubbling_moves.nd rfl (.inl rfl) (pe_lst pa_nil))
      (pss_cons (ps_for PassesOwn.never rfl (pi_enumT rfl B.enum (pa_cons (pv 0) pa_nil)) (pg_tup rfl (pgs_cons (pg_name (i := 2) sc_rubbling_moves.nd rfl (.inr rfl)) (pgs_cons (pg_name (i := 3) sc_rubbling_moves.nd rfl (.inl rfl)) pgs_nil)))
        (pss_one (ps_for PassesOwn.never rfl (pi_tup (pv 3)) (pg_name (i := 4) sc_rubbling_moves.nd rfl (.inr rfl))
          (pss_one (ps_expr (pe_bm PySem.F.plainAttrs_list PySem.F.slot_list_extend PySem.F.type_list_extend mt_extend (pv 1) (pa_cons (pe_lc (own := [("second", 5)]) (g := gName 5) rfl sc_rubbling_moves.nd (pi_tup (pv 3))
            (blkOk_by (own := [("second", 5)]) (N := ["graph", "found", "target", "near", "first", "second"]) (sc := defScope s_rubbling_moves) (by decide +kernel)) (fun _ _ _ _ _ => pg_name (i := 5) sc_rubbling_moves.nd rfl (.inl rfl))
            (fun _ _ _ _ _ => pts_one (pt_cmpR op_le (pv 4) (pv 5) (nomark _))) (fun _ _ _ _ _ => pe_tup (pa_cons (pv 4) (pa_cons (pv 5) (pa_cons (pv 2) pa_nil))))) pa_nil)))))))
      (pss_one (ps_ret (pv 1)))), ?_⟩
    refine ⟨Nat.zero_le _, fun l nl => ?_⟩
    refine ⟨_, rfl, g, gs, rfl, .inl (.inl (same_new nl _ _ hg)), ?_⟩
    have hgl : gs.length = gr.length := Paired.length rg
    refine for_it (walk_enumT (xs := gs)) (fun i σ H' => ∃ x2 x3 x4 vs, σ = [some (.ref g), some (.ref l), x2, x3, x4, none] ∧ Same H H' ∧ H' l = some (.lst vs) ∧ AllR IsM H' vs ((gr.zipIdx.take i).flatMap fun p => movesAt p.1 p.2)) ⟨none, none, none, [], rfl, same_new nl, upd_same, .nil⟩ (fun i σ H' _ p => ?_) ?_ ?_
    · obtain ⟨_, _, _, _, _, s1, _⟩ := p
      exact .inl (.inl (s1 _ _ hg))
    · rintro i x σ H1 H2 hi ⟨x2, x3, x4, us, rfl, s1, hl, hu⟩ ⟨T, y1, y2, rfl, nT, rfl, f1, f2⟩
      have hy1 : y1 = .int (i : Nat) := (Option.some.inj f1).symm
      subst hy1
      have hm : gr[i]? = some gr[i] := List.getElem?_eq_getElem (by omega)
      have r2 : IsT H y2 gr[i] := rg.get f2 hm
      have hnear := hsm.2 _ (List.getElem_mem (show i < gr.length by omega))
      have htk : (gr.zipIdx.take (i + 1)).flatMap (fun p => movesAt p.1 p.2) = (gr.zipIdx.take i).flatMap (fun p => movesAt p.1 p.2) ++ movesAt gr[i] i := by
        have e : gr.zipIdx[i]? = some (gr[i], i) := by rw [List.getElem?_zipIdx, hm]; simp
        rw [List.take_add_one, e, List.flatMap_append]
        simp
      have hpre := movesPre_len hsm i
      generalize (gr.zipIdx.take i).flatMap (fun p => movesAt p.1 p.2) = pre at hu htk hpre
      generalize hnr : gr[i] = near at r2 htk hnear
      have s2 : Same H1 (upd H1 T (.tup [.int (i : Nat), y2])) := same_new nT
      obtain ⟨na, rfl, hna⟩ := mono_T _ _ _ _ (Same.t (s1.trans s2)) r2
      refine ⟨T, _, rfl, .inl (.inl upd_same), rfl, _, _, rfl, _, _, rfl, rfl, ?_⟩
      refine ⟨_, rfl, na, rfl, ⟨_, .inl (.inl hna)⟩, ?_⟩
      refine for_it (walk_tup (xs := ivs near)) (fun j σ H' => ∃ x4 vs, σ = [some (.ref g), some (.ref l), some (.int (i : Nat)), some (.ref na), x4, none] ∧ Same H H' ∧ H' na = some (.tup (ivs near)) ∧ H' l = some (.lst vs) ∧
          AllR IsM H' vs (pre ++ (near.take j).flatMap fun f => (near.filter fun s => decide (f ≤ s)).map fun s => (f, s, i)))
        ⟨x4, us, rfl, s1.trans s2, hna, s2 _ _ hl, by rw [List.take_zero, List.flatMap_nil, List.append_nil]; exact AllR.mono mono_M (Same.t s2) hu⟩ (fun j σ H' _ p => ?_) ?_ ?_
      · obtain ⟨_, _, _, _, h3, _⟩ := p
        exact .inl (.inl h3)
      · rintro j x σ H3 _ hj ⟨x4', ws, rfl, s3, hna3, hl3, hw⟩ ⟨rfl, hx⟩
        rw [ivs_len] at hj
        have hfx : x = .int ((near.getD j 0 : Nat) : Int) := by
          rw [ivs_get hj] at hx
          exact (Option.some.inj hx).symm
        subst hfx
        have hmj : near[j]? = some (near.getD j 0) := by rw [List.getD_eq_getElem?_getD, List.getElem?_eq_getElem hj]; rfl
        generalize near.getD j 0 = f at hmj
        have htj : (near.take (j + 1)).flatMap (fun f => (near.filter fun s => decide (f ≤ s)).map fun s => (f, s, i)) = (near.take j).flatMap (fun f => (near.filter fun s => decide (f ≤ s)).map fun s => (f, s, i)) ++ (near.filter fun s => decide (f ≤ s)).map fun s => (f, s, i) := by
          rw [List.take_add_one, hmj, List.flatMap_append]
          simp
        have hfew : ((near.take j).flatMap (fun f => (near.filter fun s => decide (f ≤ s)).map fun s => (f, s, i))).length ≤ 25 := by
          refine Nat.le_trans (flatMap_len (k := 5) _ fun f _ => ?_) (Nat.le_trans (Nat.mul_le_mul_right 5 (show (near.take j).length ≤ 5 by rw [List.length_take]; omega)) (by decide))
          rw [List.length_map]
          exact Nat.le_trans (List.length_filter_le _ _) hnear
        have hlast : ((near.filter fun s => decide (f ≤ s)).map fun s => (f, s, i)).length ≤ 5 := by
          rw [List.length_map]
          exact Nat.le_trans (List.length_filter_le _ _) hnear
        refine ⟨_, rfl, .inl ⟨rfl, _, .inl (.inl hl3)⟩, _, rfl, na, rfl, ⟨_, .inl (.inl hna3)⟩, fun L nL => ?_⟩
        refine lc_map (walk_tup (xs := ivs near)) mono_M near (ivs_len near).symm (by rw [ivs_len]; omega) (fun s => decide (f ≤ s)) (fun s => (f, s, i)) nL (fun H4 s4 => .inl (.inl (s4 _ _ hna3))) ?_ ?_
        · rintro k b x H4 _ KK K0 hb s4 ⟨rfl, hx4⟩ k1 k0
          have hxb : x = .int (b : Int) := by
            unfold ivs at hx4
            rw [List.getElem?_map, hb] at hx4
            exact (Option.some.inj hx4).symm
          subst hxb
          refine ⟨rfl, _, rfl, _, rfl, _, _, rfl, rfl, _, rfl, ite2 (fun e => ?_) (fun e => ?_)⟩
          · have e' : f ≤ b := by
              have := of_decide_eq_true e
              omega
            exact ⟨_, rfl, _, rfl, _, rfl, (by show 3 ≤ sizeLine; decide), fun p np => k1 (decide_eq_true e') _ _ (same_new np) ⟨p, rfl, upd_same⟩⟩
          · have e' : ¬ f ≤ b := fun z => e (decide_eq_true (by omega))
            exact k0 (decide_eq_false e') _ (Same.refl _)
        · intro H4 acc s4 hacc hr4
          have hlL : l ≠ L := ne_of_none hl3 nL
          refine ⟨l, L, ws, acc, rfl, rfl, s4 _ _ hl3, hacc, ?_, ?_⟩
          · rw [Paired.length hw, Paired.length hr4, List.length_append]
            exact line_le (by omega)
          · have hT : SameT H4 (upd H4 l (.lst (ws ++ acc))) := sameT_upd fun xs e => by rw [s4 _ _ hl3] at e; cases e
            refine ⟨_, _, rfl, Same.upd (s3.trans s4) nl, hT _ _ (s4 _ _ hna3), upd_same, ?_⟩
            rw [htj, ← List.append_assoc]
            exact AllR.append (AllR.mono mono_M ((Same.t s4).trans hT) hw) (AllR.mono mono_M hT hr4)
      · rintro σ H3 ⟨x4', ws, rfl, s3, hna3, hl3, hw⟩
        refine ⟨_, _, _, ws, rfl, s3, hl3, ?_⟩
        rw [ivs_len, List.take_length] at hw
        rw [htk]
        exact hw
    · rintro σ H1 ⟨x2, x3, x4, us, rfl, s1, hl, hu⟩
      rw [List.take_of_length_le (by rw [List.length_zipIdx, hgl]; exact Nat.le_refl _)] at hu
      exact ⟨_, rfl, q _ _ s1 ⟨l, us, rfl, hl, hu⟩⟩
/-! ### has_pebbles -/
theorem sc_has_pebbles : FnScope ["configuration", "move", "first", "second", "target"] ["configuration", "move"] (defScope s_has_pebbles) := ⟨rfl, rfl, rfl, by decide +kernel, rfl, by decide +kernel, by decide +kernel⟩
def sp_has_pebbles : Sp := fun vs H Q _ => ∃ (vc vm : V) (c : Cfg) (f s t : Nat), vs = [vc, vm] ∧ IsT H vc c ∧ IsM H vm (f, s, t) ∧ f < c.length ∧ s < c.length ∧ Q (.bl (hasP c (f, s, t))) H
theorem ok_has_pebbles (D : DefAt K mg "has_pebbles" s_has_pebbles ["configuration", "move"]) : Has P w K mg base CX0 1 "has_pebbles" ["configuration", "move"] sp_has_pebbles := by
  refine has_of D sc_has_pebbles (fun vs H Q E h => ?_) (fun fa cdv A outer s H vs Q E hr h => ?_)
  · obtain ⟨_, _, _, _, _, _, rfl, _⟩ := h
    rfl
  · obtain ⟨_, _, c, f, s, t, rfl, ⟨a, rfl, ha⟩, ⟨b, rfl, hb⟩, hf, hs, q⟩ := h
    refine ⟨_, pss_cons (ps_asg (pv 1) (pg_tup rfl (pgs_cons (pg_name (i := 2) sc_has_pebbles.nd rfl (.inl rfl)) (pgs_cons (pg_name (i := 3) sc_has_pebbles.nd rfl (.inl rfl)) (pgs_cons (pg_name (i := 4) sc_has_pebbles.nd rfl (.inl rfl)) pgs_nil)))))
      (pss_cons (ps_if (pt_cmpR op_eq (pv 2) (pv 3) (nomark _)) (pss_one (ps_ret (pe_cmpR op_gt (pe_ix ix_tup (pv 0) (pv 2) (fun _ _ => rfl)) pe_int (nomark _)))) pss_nil)
      (pss_one (ps_ret (pe_and (pe_cmpR op_gt (pe_ix ix_tup (pv 0) (pv 2) (fun _ _ => rfl)) pe_int (nomark _)) (pe_one (pe_cmpR op_gt (pe_ix ix_tup (pv 0) (pv 3) (fun _ _ => rfl)) pe_int (nomark _))))))), ?_⟩
    have hb : H b = some (.tup [.int (f : Int), .int (s : Int), .int (t : Int)]) := hb
    refine ⟨_, rfl, b, _, rfl, .inl (.inl hb), rfl, _, _, rfl, _, _, rfl, _, _, rfl, rfl, ?_⟩
    refine ⟨_, rfl, _, rfl, rfl, _, rfl, ite2 (fun e => ?_) (fun e => ?_)⟩
    · have ef : f = s := by
        have := V.int.inj (of_decide_eq_true e)
        omega
      subst ef
      refine ⟨_, rfl, _, rfl, a, _, _, _, rfl, rfl, .inl (.inl ha), ivs_at hf, _, _, rfl, rfl, q_bl ?_ q⟩
      rw [hasP_same]
      exact dec_eq (by omega)
    · have ef : f ≠ s := fun z => e (decide_eq_true (by rw [z]))
      refine ⟨_, rfl, _, rfl, a, _, _, _, rfl, rfl, .inl (.inl ha), ivs_at hf, _, _, rfl, rfl, _, rfl, ite2 (fun e1 => ?_) (fun e1 => ?_)⟩
      · refine ⟨_, rfl, _, rfl, a, _, _, _, rfl, rfl, .inl (.inl ha), ivs_at hs, _, _, rfl, rfl, q_bl ?_ q⟩
        have := of_decide_eq_true e1
        rw [hasP_diff ef, decide_eq_true (show 1 ≤ c.getD f 0 by omega), Bool.true_and]
        exact dec_eq (by omega)
      · refine q_bl ?_ q
        have : ¬ (0 : Int) < (c.getD f 0 : Nat) := fun z => e1 (decide_eq_true z)
        rw [hasP_diff ef, decide_eq_false (show ¬ 1 ≤ c.getD f 0 by omega), Bool.false_and]
/-! ### moved -/
theorem sc_moved : FnScope ["configuration", "move", "first", "second", "target", "found"] ["configuration", "move"] (defScope s_moved) := ⟨rfl, rfl, rfl, by decide +kernel, rfl, by decide +kernel, by decide +kernel⟩
def sp_moved : Sp := fun vs H Q _ => ∃ (vc vm : V) (c : Cfg) (f s t : Nat), vs = [vc, vm] ∧ IsT H vc c ∧ IsM H vm (f, s, t) ∧ f < c.length ∧ s < c.length ∧ t < c.length ∧ hasP c (f, s, t) = true ∧ ∀ v H', Same H H' → IsT H' v (mvd c (f, s, t)) → Q v H'
theorem ok_moved (D : DefAt K mg "moved" s_moved ["configuration", "move"]) (B : Bi mg) : Has P w K mg base CX0 1 "moved" ["configuration", "move"] sp_moved := by
  refine has_of D sc_moved (fun vs H Q E h => ?_) (fun fa cdv A outer s H vs Q E hr h => ?_)
  · obtain ⟨_, _, _, _, _, _, rfl, _⟩ := h
    rfl
  · obtain ⟨_, _, c, f, s, t, rfl, ⟨a, rfl, ha⟩, ⟨b, rfl, hb⟩, hf, hs, ht, hp, q⟩ := h
    refine ⟨_, pss_cons (ps_asg (pv 1) (pg_tup rfl (pgs_cons (pg_name (i := 2) sc_moved.nd rfl (.inl rfl)) (pgs_cons (pg_name (i := 3) sc_moved.nd rfl (.inl rfl)) (pgs_cons (pg_name (i := 4) sc_moved.nd rfl (.inl rfl)) pgs_nil)))))
      (pss_cons (ps_set (i := 5) sc_moved.nd rfl (.inl rfl) (pe_callTy call_list_of rfl B.list boot_list (pa_cons (pv 0) pa_nil)))
      (pss_cons (ps_asg (pe_op op_sub (pe_ix ix_list (pv 5) (pv 2) (fun _ _ => rfl)) pe_int) (pg_sub (pv 5) (pv 2) set_list))
      (pss_cons (ps_asg (pe_op op_sub (pe_ix ix_list (pv 5) (pv 3) (fun _ _ => rfl)) pe_int) (pg_sub (pv 5) (pv 3) set_list))
      (pss_cons (ps_asg (pe_op op_add (pe_ix ix_list (pv 5) (pv 4) (fun _ _ => rfl)) pe_int) (pg_sub (pv 5) (pv 4) set_list))
      (pss_one (ps_ret (pe_callTy call_tuple_of rfl B.tuple boot_tuple (pa_cons (pv 5) pa_nil)))))))), ?_⟩
    have h1 : 1 ≤ c.getD f 0 := by
      by_cases e : f = s
      · subst e
        rw [hasP_same] at hp
        have := of_decide_eq_true hp
        omega
      · rw [hasP_diff e, Bool.and_eq_true] at hp
        exact of_decide_eq_true hp.1
    have h2 : 1 ≤ (c.set f (c.getD f 0 - 1)).getD s 0 := by
      by_cases e : f = s
      · subst e
        rw [hasP_same] at hp
        have := of_decide_eq_true hp
        rw [List.getD_eq_getElem?_getD, List.getElem?_set_self hf]
        show 1 ≤ c.getD f 0 - 1
        omega
      · rw [hasP_diff e, Bool.and_eq_true] at hp
        rw [List.getD_eq_getElem?_getD, List.getElem?_set_ne e, ← List.getD_eq_getElem?_getD]
        exact of_decide_eq_true hp.2
    have hb : H b = some (.tup [.int (f : Int), .int (s : Int), .int (t : Int)]) := hb
    have hs1 : s < (c.set f (c.getD f 0 - 1)).length := by rw [List.length_set]; exact hs
    have ht1 : t < ((c.set f (c.getD f 0 - 1)).set s ((c.set f (c.getD f 0 - 1)).getD s 0 - 1)).length := by rw [List.length_set, List.length_set]; exact ht
    refine ⟨_, rfl, b, _, rfl, .inl (.inl hb), rfl, _, _, rfl, _, _, rfl, _, _, rfl, rfl, ?_⟩
    refine ⟨_, rfl, a, _, rfl, .inr (.inl (.inl ha)), fun l hl => ?_⟩
    refine ⟨_, rfl, _, rfl, l, _, _, _, rfl, rfl, .inl (.inl upd_same), ivs_at hf, _, _, rfl, rfl, _, rfl, _, rfl, l, _, _, _, rfl, rfl, upd_same, ixN_nat (by rw [ivs_len]; exact hf), ?_⟩
    refine at_heap (upd H l (.lst (ivs (c.set f (c.getD f 0 - 1))))) (by rw [upd_upd]; show upd H l (.lst ((ivs c).set f (.int (((c.getD f 0 : Nat) : Int) - 1)))) = _; rw [show ((c.getD f 0 : Nat) : Int) - 1 = ((c.getD f 0 - 1 : Nat) : Int) by omega, ivs_set]) ?_
    refine ⟨_, rfl, _, rfl, l, _, _, _, rfl, rfl, .inl (.inl upd_same), ivs_at hs1, _, _, rfl, rfl, _, rfl, _, rfl, l, _, _, _, rfl, rfl, upd_same, ixN_nat (by rw [ivs_len]; exact hs1), ?_⟩
    refine at_heap (upd H l (.lst (ivs ((c.set f (c.getD f 0 - 1)).set s ((c.set f (c.getD f 0 - 1)).getD s 0 - 1))))) (by
      rw [upd_upd]
      show upd H l (.lst ((ivs (c.set f (c.getD f 0 - 1))).set s (.int ((((c.set f (c.getD f 0 - 1)).getD s 0 : Nat) : Int) - 1)))) = _
      rw [show (((c.set f (c.getD f 0 - 1)).getD s 0 : Nat) : Int) - 1 = (((c.set f (c.getD f 0 - 1)).getD s 0 - 1 : Nat) : Int) by omega, ivs_set]) ?_
    refine ⟨_, rfl, _, rfl, l, _, _, _, rfl, rfl, .inl (.inl upd_same), ivs_at ht1, _, _, rfl, rfl, _, rfl, _, rfl, l, _, _, _, rfl, rfl, upd_same, ixN_nat (by rw [ivs_len]; exact ht1), ?_⟩
    refine at_heap (upd H l (.lst (ivs (mvd c (f, s, t))))) (by
      rw [upd_upd]
      show upd H l (.lst ((ivs ((c.set f (c.getD f 0 - 1)).set s ((c.set f (c.getD f 0 - 1)).getD s 0 - 1))).set t (.int (((((c.set f (c.getD f 0 - 1)).set s ((c.set f (c.getD f 0 - 1)).getD s 0 - 1)).getD t 0 : Nat) : Int) + 1)))) = _
      rw [show ((((c.set f (c.getD f 0 - 1)).set s ((c.set f (c.getD f 0 - 1)).getD s 0 - 1)).getD t 0 : Nat) : Int) + 1 = ((((c.set f (c.getD f 0 - 1)).set s ((c.set f (c.getD f 0 - 1)).getD s 0 - 1)).getD t 0 + 1 : Nat) : Int) by omega, ivs_set]
      rfl) ?_
    exact ⟨_, rfl, l, _, rfl, .inl ⟨.inl (.inl upd_same), fun p hp' => q _ _ (Same.upd (same_new hl) (none_of (same_new hl) hp')) ⟨p, rfl, upd_same⟩⟩⟩
/-! ### all_behind -/
theorem sc_all_behind : FnScope ["configuration", "moves", "move"] ["configuration", "moves"] (defScope s_all_behind) := ⟨rfl, rfl, rfl, by decide +kernel, rfl, by decide +kernel, by decide +kernel⟩
def sp_all_behind : Sp := fun vs H Q _ => ∃ (vc vm : V) (c : Cfg) (ms : List Mv), vs = [vc, vm] ∧ IsT H vc c ∧ IsLs IsM H vm ms ∧ ms.length ≤ 1000 ∧ MovesIn c.length ms ∧ ∀ v H', Same H H' → IsLs IsT H' v (allBehind c ms) → Q v H'
theorem ok_all_behind (D : DefAt K mg "all_behind" s_all_behind ["configuration", "moves"]) (G1 : Has P w K mg base CX0 1 "has_pebbles" ["configuration", "move"] sp_has_pebbles)
    (G2 : Has P w K mg base CX0 1 "moved" ["configuration", "move"] sp_moved) : Has P w K mg base CX0 2 "all_behind" ["configuration", "moves"] sp_all_behind := by
  refine has_of D sc_all_behind (fun vs H Q E h => ?_) (fun fa cdv A outer s H vs Q E hr h => ?_)
  · obtain ⟨_, _, _, _, rfl, _⟩ := h
    rfl
  · obtain ⟨vc, _, c, ms, rfl, hc, ⟨l, us, rfl, hl, rl⟩, hz, hin, q⟩ := h
    refine ⟨_, pss_one (ps_ret (pe_lc (own := [("move", 2)]) (g := gName 2) rfl sc_all_behind.nd (pi_list (pv 1))
      (blkOk_by (own := [("move", 2)]) (N := ["configuration", "moves", "move"]) (sc := defScope s_all_behind) (by decide +kernel)) (fun _ _ _ _ _ => pg_name (i := 2) sc_all_behind.nd rfl (.inl rfl))
      (fun _ _ _ _ _ => pts_one (pt_val (pe_f G1 hr (pa_cons (pv 0) (pa_cons (pv 2) pa_nil))))) (fun _ _ _ _ _ => pe_f G2 hr (pa_cons (pv 0) (pa_cons (pv 2) pa_nil))))), ?_⟩
    refine ⟨_, rfl, l, rfl, ⟨_, .inl (.inl hl)⟩, fun L nL => ?_⟩
    refine lc_map (walk_list (xs := us)) mono_T ms (Paired.length rl).symm (by rw [Paired.length rl]; omega) (fun m => hasP c m) (fun m => mvd c m) nL (fun H2 s2 => .inl (.inl (s2 _ _ hl))) ?_ ?_
    · rintro i ⟨f, s0, t⟩ x _ H2 KK K0 hb s2 ⟨rfl, hx⟩ k1 k0
      have r1 : IsM H2 x (f, s0, t) := mono_M _ _ _ _ (Same.t s2) (rl.get hx hb)
      obtain ⟨b1, b2, b3⟩ := hin _ (List.mem_of_getElem? hb)
      have hc2 := mono_T _ _ _ _ (Same.t s2) hc
      refine ⟨rfl, _, rfl, _, rfl, vc, x, c, f, s0, t, rfl, hc2, r1, b1, b2, _, rfl, ite2 (fun e => ?_) (fun e => ?_)⟩
      · exact ⟨_, rfl, _, rfl, vc, x, c, f, s0, t, rfl, hc2, r1, b1, b2, b3, e, fun v H3 s3 r3 => k1 e _ _ s3 r3⟩
      · exact k0 (Bool.eq_false_iff.mpr e) _ (Same.refl _)
    · intro H2 acc s2 hacc hr2
      exact q _ _ s2 ⟨L, acc, rfl, hacc, hr2⟩
/-! ### longer_rows -/
def IsR (H : Hp) (v : V) (p : Cfg × Nat) : Prop := ∃ a r, v = .ref a ∧ H a = some (.tup [r, .int (p.2 : Int)]) ∧ IsT H r p.1
theorem mono_R : Mono IsR := fun _ _ _ _ s ⟨a, r, e, h, t⟩ => ⟨a, r, e, s a _ h, mono_T _ _ _ _ s t⟩
theorem ivs_snoc (l : List Nat) (k : Nat) : ivs (l ++ [k]) = ivs l ++ [.int (k : Int)] := List.map_append ..
theorem longer_len {rows : List (Cfg × Nat)} {N : Nat} (h : ∀ p ∈ rows, p.2 < N) : (longer rows).length ≤ rows.length * N := by
  unfold longer
  refine flatMap_len (k := N) _ fun p hp => ?_
  unfold rowStep
  rw [List.length_map, List.length_range]
  exact h p hp
theorem rng_at {n i b : Nat} (h : (List.range n)[i]? = some b) : b = i ∧ i < n := by
  have hi : i < n := by
    have := (List.getElem?_eq_some_iff.mp h).1
    simpa using this
  rw [List.getElem?_range hi] at h
  exact ⟨(Option.some.inj h).symm, hi⟩
theorem fn_at {x : V} {k : Nat} (h : x = V.int (0 + (k : Nat))) : x = V.int (k : Int) := by rw [h, Int.zero_add]
theorem sub_at {r : V} {m k : Nat} (h : k ≤ m) : some (HO.tup [r, V.int ((m : Int) - (k : Int))]) = some (HO.tup [r, V.int ((m - k : Nat) : Int)]) := by rw [show (m : Int) - (k : Int) = ((m - k : Nat) : Int) by omega]
theorem sc_longer_rows : FnScope ["rows", "found", "row", "left", "own"] ["rows"] (defScope s_longer_rows) := ⟨rfl, rfl, rfl, by decide +kernel, rfl, by decide +kernel, by decide +kernel⟩
def sp_longer_rows : Sp := fun vs H Q _ => ∃ (vr : V) (rows : List (Cfg × Nat)), vs = [vr] ∧ IsLs IsR H vr rows ∧ rows.length ≤ 30000 ∧ (∀ p ∈ rows, p.1.length ≤ 10 ∧ p.2 < 30) ∧ ∀ v H', Same H H' → IsLs IsR H' v (longer rows) → Q v H'
theorem ok_longer_rows (D : DefAt K mg "longer_rows" s_longer_rows ["rows"]) (B : Bi mg) : Has P w K mg base CX0 1 "longer_rows" ["rows"] sp_longer_rows := by
  refine has_of D sc_longer_rows (fun vs H Q E h => ?_) (fun fa cdv A outer s H vs Q E hr h => ?_)
  · obtain ⟨_, _, rfl, _⟩ := h
    rfl
  · obtain ⟨_, rows, rfl, ⟨a, us, rfl, ha, ra⟩, hz, hok, q⟩ := h
    refine ⟨_, pss_cons (ps_set (i := 1) sc_longer_rows.nd rfl (.inl rfl) (pe_lst pa_nil))
      (pss_cons (ps_for PassesOwn.never rfl (pi_list (pv 0)) (pg_tup rfl (pgs_cons (pg_name (i := 2) sc_longer_rows.nd rfl (.inr rfl)) (pgs_cons (pg_name (i := 3) sc_longer_rows.nd rfl (.inr rfl)) pgs_nil)))
        (pss_one (ps_expr (pe_bm PySem.F.plainAttrs_list PySem.F.slot_list_extend PySem.F.type_list_extend mt_extend (pv 1) (pa_cons (pe_lc (own := [("own", 4)]) (g := gName 4) (tt := tYes) rfl sc_longer_rows.nd (pi_range1 rfl B.range (pa_cons (pe_op op_add (pv 3) pe_int) pa_nil))
            (blkOk_by (own := [("own", 4)]) (N := ["rows", "found", "row", "left", "own"]) (sc := defScope s_longer_rows) (by decide +kernel)) (fun _ _ _ _ _ => pg_name (i := 4) sc_longer_rows.nd rfl (.inl rfl))
            (fun _ _ _ _ _ => pts_nil) (fun _ _ _ _ _ => pe_tup (pa_cons (pe_op (r := rCatA K) op_catA (pv 2) (pe_tup (pa_cons (pv 4) pa_nil))) (pa_cons (pe_op op_sub (pv 3) (pv 4)) pa_nil)))) pa_nil)))))
      (pss_one (ps_ret (pv 1)))), ?_⟩
    refine ⟨Nat.zero_le _, fun l nl => ?_⟩
    refine ⟨_, rfl, a, rfl, ⟨_, .inl (.inl (same_new nl _ _ ha))⟩, ?_⟩
    have hul : us.length = rows.length := Paired.length ra
    refine for_it (walk_list (xs := us)) (fun i σ H' => ∃ x2 x3 vs, σ = [some (.ref a), some (.ref l), x2, x3, none] ∧ Same H H' ∧ H' l = some (.lst vs) ∧ AllR IsR H' vs (longer (rows.take i))) ⟨none, none, [], rfl, same_new nl, upd_same, .nil⟩ (fun i σ H' _ p => ?_) ?_ ?_
    · obtain ⟨_, _, _, _, s1, _⟩ := p
      exact .inl (.inl (s1 _ _ ha))
    · rintro i x σ H1 _ hi ⟨x2, x3, ws, rfl, s1, hl, hw⟩ ⟨rfl, hx⟩
      have hm : rows[i]? = some rows[i] := List.getElem?_eq_getElem (by omega)
      have hmem : rows[i] ∈ rows := List.getElem_mem _
      have rx : IsR H x rows[i] := ra.get hx hm
      have htk : longer (rows.take (i + 1)) = longer (rows.take i) ++ rowStep rows[i] := by
        unfold longer
        rw [List.take_add_one, hm, List.flatMap_append]
        simp
      have hpre : (longer (rows.take i)).length ≤ 900000 := by
        refine Nat.le_trans (longer_len (N := 30) fun p hp => (hok p (List.mem_of_mem_take hp)).2) ?_
        rw [List.length_take]
        omega
      generalize longer (rows.take i) = pre at hw htk hpre
      generalize rows[i] = p at rx htk hmem
      obtain ⟨row, left⟩ := p
      obtain ⟨h10, h30⟩ := hok _ hmem
      have h10 : row.length ≤ 10 := h10
      have h30 : left < 30 := h30
      obtain ⟨T, r, rfl, hT, hr⟩ := rx
      have hT1 := s1 _ _ hT
      obtain ⟨ar, rfl, har⟩ := mono_T _ _ _ _ (Same.t s1) hr
      refine ⟨T, _, rfl, .inl (.inl hT1), rfl, _, _, rfl, _, _, rfl, rfl, ?_⟩
      refine ⟨_, rfl, .inl ⟨rfl, _, .inl (.inl hl)⟩, _, rfl, _, _, rfl, rfl, (left : Int) + 1, rfl, by omega, by omega, fun L nL => ?_⟩
      rw [show ((left : Int) + 1).toNat = left + 1 from rfl]
      refine lc_map walk_range mono_R (List.range (left + 1)) (List.length_range ..) (by omega) (fun _ => true) (fun own => (row ++ [own], left - own)) nL (fun _ _ => trivial) ?_ ?_
      · rintro k b x _ H2 KK K0 hb s2 ⟨rfl, ex⟩ k1 _
        obtain ⟨rfl, hi⟩ := rng_at hb
        obtain rfl : x = .int (b : Int) := fn_at ex
        have har2 := s2 _ _ har
        refine ⟨rfl, yes_of (iteT ?_)⟩
        refine ⟨_, rfl, _, rfl, (by show 1 ≤ sizeLine; decide), fun p np => ?_⟩
        have s3 : Same H2 (upd H2 p (.tup [.int (b : Int)])) := same_new np
        refine ⟨ar, p, ivs row, [.int (b : Int)], rfl, rfl, .inl (.inl (s3 _ _ har2)), .inl (.inl upd_same), (by rw [ivs_len]; exact line_le (by show row.length + 1 ≤ _; omega)), fun e => ?_, fun _ e => ?_, fun _ _ p2 np2 => ?_⟩
        · refine ⟨_, rfl, _, rfl, _, _, rfl, rfl, (by show 2 ≤ sizeLine; decide), fun p3 np3 => ?_⟩
          refine k1 rfl _ _ (Same.upd s3 (none_of s3 np3)) ⟨p3, .ref p, rfl, ?_, p, rfl, ?_⟩
          · exact upd_same.trans (sub_at (by omega))
          · rw [upd_ne (fun z => by rw [← z, upd_same] at np3; cases np3), upd_same]
            show some (HO.tup [.int (b : Int)]) = some (HO.tup (ivs (row ++ [b])))
            rw [ivs_snoc, e]
            rfl
        · cases e
        · have s4 := Same.upd s3 (none_of s3 np2) (o := .tup (ivs row ++ [.int (b : Int)]))
          refine ⟨_, rfl, _, rfl, _, _, rfl, rfl, (by show 2 ≤ sizeLine; decide), fun p3 np3 => ?_⟩
          refine k1 rfl _ _ (Same.upd s4 (none_of s4 np3)) ⟨p3, .ref p2, rfl, ?_, p2, rfl, ?_⟩
          · exact upd_same.trans (sub_at (by omega))
          · rw [upd_ne (fun z => by rw [← z, upd_same] at np3; cases np3), upd_same]
            show _ = some (HO.tup (ivs (row ++ [b])))
            rw [ivs_snoc]
      · intro H4 acc s4 hacc hr4
        rw [all_keep] at hr4
        have hlL : l ≠ L := ne_of_none hl nL
        refine ⟨l, L, ws, acc, rfl, rfl, s4 _ _ hl, hacc, ?_, ?_⟩
        · rw [Paired.length hw, Paired.length hr4, List.length_map, List.length_range]
          exact line_le (by omega)
        · have hT : SameT H4 (upd H4 l (.lst (ws ++ acc))) := sameT_upd fun xs e => by rw [s4 _ _ hl] at e; cases e
          refine ⟨_, _, _, rfl, Same.upd (s1.trans s4) nl, upd_same, ?_⟩
          rw [htk]
          exact AllR.append (AllR.mono mono_R ((Same.t s4).trans hT) hw) (AllR.mono mono_R hT hr4)
    · rintro σ H1 ⟨x2, x3, ws, rfl, s1, hl, hw⟩
      rw [List.take_of_length_le (by omega)] at hw
      exact ⟨_, rfl, q _ _ s1 ⟨l, ws, rfl, hl, hw⟩⟩
/-! ### configurations -/
theorem rowsAt_len {many : Nat} (h : many < 30) : ∀ j : Nat, (rowsAt many j).length ≤ 30 ^ j
  | 0 => Nat.le_refl _
  | j + 1 => by
    have h1 := rowsAt_len h j
    have h2 := longer_len (N := 30) (rows := rowsAt many j) fun p hp => by
      have := (rowsAt_ok j p hp).2
      omega
    have e : (30 : Nat) ^ (j + 1) = 30 ^ j * 30 := Nat.pow_succ ..
    show (longer (rowsAt many j)).length ≤ _
    omega
theorem rowsAt_few {many j : Nat} (h : many < 30) (hj : j ≤ 3) : (rowsAt many j).length ≤ 30000 := by
  have h1 := rowsAt_len h j
  have h2 : (30 : Nat) ^ j ≤ 30 ^ 3 := Nat.pow_le_pow_right (by decide) hj
  have h3 : (30 : Nat) ^ 3 = 27000 := by decide
  omega
theorem sc_configurations : FnScope ["vertex_count", "many", "rows", "turn", "row", "left"] ["vertex_count", "many"] (defScope s_configurations) := ⟨rfl, rfl, rfl, by decide +kernel, rfl, by decide +kernel, by decide +kernel⟩
def sp_configurations : Sp := fun vs H Q _ => ∃ (n many : Nat), vs = [.int (n : Int), .int (many : Int)] ∧ 1 ≤ n ∧ n ≤ 5 ∧ many < 30 ∧ ∀ v H', Same H H' → IsLs IsT H' v (Ks578.configurations n many) → Q v H'
theorem ok_configurations (D : DefAt K mg "configurations" s_configurations ["vertex_count", "many"]) (B : Bi mg) (G1 : Has P w K mg base CX0 1 "longer_rows" ["rows"] sp_longer_rows) :
    Has P w K mg base CX0 2 "configurations" ["vertex_count", "many"] sp_configurations := by
  refine has_of D sc_configurations (fun vs H Q E h => ?_) (fun fa cdv A outer s H vs Q E hr h => ?_)
  · obtain ⟨_, _, rfl, _⟩ := h
    rfl
  · obtain ⟨n, many, rfl, hn1, hn5, hmany, q⟩ := h
    refine ⟨_, pss_cons (ps_set (i := 2) sc_configurations.nd rfl (.inl rfl) (pe_lst (pa_cons (pe_tup (pa_cons (pe_tup pa_nil) (pa_cons (pv 1) pa_nil))) pa_nil)))
      (pss_cons (ps_for PassesOwn.never rfl (pi_range1 rfl B.range (pa_cons (pe_op op_sub (pv 0) pe_int) pa_nil)) (pg_name (i := 3) sc_configurations.nd rfl (.inl rfl))
        (pss_one (ps_set (i := 2) sc_configurations.nd rfl (.inl rfl) (pe_f G1 hr (pa_cons (pv 2) pa_nil)))))
      (pss_one (ps_ret (pe_lc (own := [("row", 4), ("left", 5)]) (g := gTup K 2 (gCons (gName 4) (gCons (gName 5) gNil))) (tt := tYes) rfl sc_configurations.nd (pi_list (pv 2))
        (blkOk_by (own := [("row", 4), ("left", 5)]) (N := ["vertex_count", "many", "rows", "turn", "row", "left"]) (sc := defScope s_configurations) (by decide +kernel))
        (fun _ _ _ _ _ => pg_tup rfl (pgs_cons (pg_name (i := 4) sc_configurations.nd rfl (.inl rfl)) (pgs_cons (pg_name (i := 5) sc_configurations.nd rfl (.inl rfl)) pgs_nil))) (fun _ _ _ _ _ => pts_nil)
        (fun _ _ _ _ _ => pe_op (r := rCatA K) op_catA (pv 4) (pe_tup (pa_cons (pv 5) pa_nil))))))), ?_⟩
    refine ⟨Nat.zero_le _, fun p0 np0 => ⟨_, rfl, (by show 2 ≤ sizeLine; decide), fun p1 np1 => ⟨(by show 1 ≤ sizeLine; decide), fun l nl => ?_⟩⟩⟩
    have s1 : Same H (upd H p0 (.tup [])) := same_new np0
    have s2 : Same (upd H p0 (.tup [])) (upd (upd H p0 (.tup [])) p1 (.tup [.ref p0, .int (many : Int)])) := same_new np1
    have hl0 := upd_same (H := upd (upd H p0 (.tup [])) p1 (.tup [.ref p0, .int (many : Int)])) (a := l) (o := .lst [.ref p1])
    have s3 : Same (upd (upd H p0 (.tup [])) p1 (.tup [.ref p0, .int (many : Int)])) (upd (upd (upd H p0 (.tup [])) p1 (.tup [.ref p0, .int (many : Int)])) l (.lst [.ref p1])) := same_new nl
    have st : IsLs IsR (upd (upd (upd H p0 (.tup [])) p1 (.tup [.ref p0, .int (many : Int)])) l (.lst [.ref p1])) (.ref l) (rowsAt many 0) :=
      ⟨l, _, rfl, hl0, .cons ⟨p1, .ref p0, rfl, s3 _ _ upd_same, p0, rfl, s3 _ _ (s2 _ _ upd_same)⟩ .nil⟩
    have s0 := (s1.trans s2).trans s3
    generalize upd (upd (upd H p0 (.tup [])) p1 (.tup [.ref p0, .int (many : Int)])) l (.lst [.ref p1]) = H0 at st s0
    refine ⟨_, rfl, _, _, rfl, rfl, (n : Int) - 1, rfl, by omega, by omega, ?_⟩
    rw [show ((n : Int) - 1).toNat = n - 1 by omega]
    refine for_it walk_range (fun i σ H' => ∃ v x3, σ = [some (.int (n : Int)), some (.int (many : Int)), some v, x3, none, none] ∧ Same H H' ∧ IsLs IsR H' v (rowsAt many i)) ⟨.ref l, none, rfl, s0, st⟩ (fun _ _ _ _ _ => trivial) ?_ ?_
    · rintro i x σ H1 _ hi ⟨v, x3, rfl, s4, hv⟩ ⟨rfl, ex⟩
      refine ⟨_, rfl, v, rowsAt many i, rfl, hv, rowsAt_few hmany (by omega), fun p hp => ?_, fun v' H2 s5 hv' => ⟨v', _, rfl, s4.trans s5, hv'⟩⟩
      have := rowsAt_ok i p hp
      omega
    · rintro σ H1 ⟨v, x3, rfl, s4, ⟨a, us, rfl, ha, ra⟩⟩
      have hz : (rowsAt many (n - 1)).length ≤ 1000000 := by
        have h1 := rowsAt_len hmany (n - 1)
        have h2 : (30 : Nat) ^ (n - 1) ≤ 30 ^ 4 := Nat.pow_le_pow_right (by decide) (by omega)
        have h3 : (30 : Nat) ^ 4 = 810000 := by decide
        omega
      refine ⟨_, rfl, a, rfl, ⟨_, .inl (.inl ha)⟩, fun L nL => ?_⟩
      refine lc_map (walk_list (xs := us)) mono_T (rowsAt many (n - 1)) (Paired.length ra).symm (by rw [Paired.length ra]; omega) (fun _ => true) (fun p => p.1 ++ [p.2]) nL (fun H2 s5 => .inl (.inl (s5 _ _ ha))) ?_ ?_
      · rintro k p x _ H2 KK K0 hb s5 ⟨rfl, hx⟩ k1 _
        have hp := rowsAt_ok (n - 1) p (List.mem_of_getElem? hb)
        obtain ⟨T, r, rfl, hT, hr⟩ := mono_R _ _ _ _ (Same.t s5) (ra.get hx hb)
        obtain ⟨row, left⟩ := p
        have hp1 : row.length = n - 1 := hp.1
        obtain ⟨ar, rfl, har⟩ := hr
        refine ⟨T, _, rfl, .inl (.inl hT), rfl, _, _, rfl, _, _, rfl, rfl, rfl, yes_of (iteT ?_)⟩
        refine ⟨_, rfl, _, rfl, (by show 1 ≤ sizeLine; decide), fun p np => ?_⟩
        have s6 : Same H2 (upd H2 p (.tup [.int (left : Int)])) := same_new np
        refine ⟨ar, p, ivs row, [.int (left : Int)], rfl, rfl, .inl (.inl (s6 _ _ har)), .inl (.inl upd_same), (by rw [ivs_len]; exact line_le (by show row.length + 1 ≤ _; omega)), fun e => ?_, fun _ e => ?_, fun _ _ p2 np2 => ?_⟩
        · refine k1 rfl _ _ s6 ⟨p, rfl, ?_⟩
          rw [upd_same]
          show _ = some (HO.tup (ivs (row ++ [left])))
          rw [ivs_snoc, e]
          rfl
        · cases e
        · refine k1 rfl _ _ (Same.upd s6 (none_of s6 np2)) ⟨p2, rfl, ?_⟩
          rw [upd_same]
          show _ = some (HO.tup (ivs (row ++ [left])))
          rw [ivs_snoc]
      · intro H2 acc s5 hacc hr2
        rw [all_keep] at hr2
        refine q _ _ (s4.trans s5) ⟨L, acc, rfl, hacc, ?_⟩
        rw [← cfgs_is hn1]
        exact hr2
/-! ### can_reach -/
theorem sc_can_reach : FnScope ["configuration", "target", "moves", "before", "later"] ["configuration", "target", "moves", "before"] (defScope s_can_reach) := ⟨rfl, rfl, rfl, by decide +kernel, rfl, by decide +kernel, by decide +kernel⟩
def sp_can_reach : Sp := fun vs H Q _ => ∃ (vc vm : V) (d : Addr) (c : Cfg) (t : Nat) (ms : List Mv) (before : List Cfg), vs = [vc, .int (t : Int), vm, .ref d] ∧ IsT H vc c ∧ t < c.length ∧ IsLs IsM H vm ms ∧ ms.length ≤ 1000 ∧ MovesIn c.length ms ∧ H d = some (.dT (kd before)) ∧
  ∀ H', Same H H' → Q (.bl (canR t ms before c)) H'
theorem ok_can_reach (D : DefAt K mg "can_reach" s_can_reach ["configuration", "target", "moves", "before"]) (B : Bi mg) (G1 : Has P w K mg base CX0 2 "all_behind" ["configuration", "moves"] sp_all_behind) :
    Has P w K mg base CX0 3 "can_reach" ["configuration", "target", "moves", "before"] sp_can_reach := by
  refine has_of D sc_can_reach (fun vs H Q E h => ?_) (fun fa cdv A outer s H vs Q E hr h => ?_)
  · obtain ⟨_, _, _, _, _, _, _, rfl, _⟩ := h
    rfl
  · obtain ⟨_, vm, d, c, t, ms, before, rfl, ⟨a, rfl, ha⟩, ht, hm, hz, hin, hd, q⟩ := h
    refine ⟨_, pss_one (ps_ret (pe_or (pe_cmpR op_gt (pe_ix ix_tup (pv 0) (pv 1) (fun _ _ => rfl)) pe_int (nomark _))
      (pe_one (pe_callB (cr_any rfl) rfl B.any boot_any (pa_cons (pe_lc (own := [("later", 4)]) (g := gName 4) (tt := tYes) rfl sc_can_reach.nd (pi_list (pe_f G1 hr (pa_cons (pv 0) (pa_cons (pv 2) pa_nil))))
        (blkOk_by (own := [("later", 4)]) (N := ["configuration", "target", "moves", "before", "later"]) (sc := defScope s_can_reach) (by decide +kernel)) (fun _ _ _ _ _ => pg_name (i := 4) sc_can_reach.nd rfl (.inl rfl)) (fun _ _ _ _ _ => pts_nil)
        (fun _ _ _ _ _ => pe_cmp (pc_din (hu_of hr) (pv 4) (pv 3)) rfl)) pa_nil))))), ?_⟩
    have hpk : (decide ((0 : Int) < ((c.getD t 0 : Nat) : Int))) = decide (0 < Ks577.pebblesAt c t) := dec_eq (by unfold Ks577.pebblesAt; omega)
    refine ⟨_, rfl, _, rfl, a, _, _, _, rfl, rfl, .inl (.inl ha), ivs_at ht, _, _, rfl, rfl, _, rfl, ite2 (fun e => ?_) (fun e => ?_)⟩
    · refine q_bl ?_ (q H (Same.refl H))
      rw [hpk] at e
      unfold canR
      rw [e]
      rfl
    · rw [hpk] at e
      refine ⟨_, rfl, _, rfl, .ref a, vm, c, ms, rfl, ⟨a, rfl, ha⟩, hm, hz, hin, fun v H1 s1 ⟨b, us, eb, hb, rb⟩ => ?_⟩
      subst eb
      have hul : us.length = (allBehind c ms).length := Paired.length rb
      have hle : (allBehind c ms).length ≤ 1000 := by
        unfold allBehind
        rw [List.length_map]
        exact Nat.le_trans (List.length_filter_le _ _) hz
      refine ⟨b, rfl, ⟨_, .inl (.inl hb)⟩, fun L nL => ?_⟩
      refine lc_map (walk_list (xs := us)) mono_B (allBehind c ms) hul.symm (by omega) (fun _ => true) (fun e => decide (e ∈ before)) nL (fun H2 s2 => .inl (.inl (s2 _ _ hb))) ?_ ?_
      · rintro k e x _ H2 KK K0 hbk s2 ⟨rfl, hx⟩ k1 _
        have rx : IsT H2 x e := mono_T _ _ _ _ (Same.t s2) (rb.get hx hbk)
        obtain ⟨ke, rfl, hke⟩ := rx.key
        refine ⟨rfl, yes_of (iteT ?_)⟩
        refine ⟨_, rfl, _, rfl, d, _, rfl, DGet.t ((s1.trans s2) _ _ hd) hke, k1 rfl _ _ (Same.refl _) ?_⟩
        show V.bl _ = V.bl _
        rw [valV_kdv]
        by_cases he : e ∈ before
        · rw [if_pos he, decide_eq_true he]
          rfl
        · rw [if_neg he, decide_eq_false he]
          rfl
      · intro H2 acc s2 hacc hr2
        rw [all_keep] at hr2
        rw [AllR.bools hr2] at hacc
        refine ⟨L, _, rfl, .inl (.inl hacc), q_bl ?_ (q H2 (s1.trans s2))⟩
        unfold canR
        rw [Bool.eq_false_iff.mpr e, List.any_map]
        rfl
/-! ### reaching -/
theorem addNew_len (l : List Cfg) : ∀ acc : List Cfg, (l.foldl addNew acc).length ≤ acc.length + l.length := by
  induction l with
  | nil => intro acc; exact Nat.le_refl _
  | cons x l ih =>
    intro acc
    rw [List.foldl_cons]
    refine Nat.le_trans (ih _) ?_
    have : (addNew acc x).length ≤ acc.length + 1 := by
      unfold addNew
      split
      · omega
      · rw [List.length_append]
        exact Nat.le_refl _
    rw [List.length_cons]
    omega
theorem sc_reaching : FnScope ["rows", "target", "moves", "before", "found", "configuration"] ["rows", "target", "moves", "before"] (defScope s_reaching) := ⟨rfl, rfl, rfl, by decide +kernel, rfl, by decide +kernel, by decide +kernel⟩
def sp_reaching : Sp := fun vs H Q _ => ∃ (vr vm : V) (d : Addr) (rows : List Cfg) (n t : Nat) (ms : List Mv) (before : List Cfg), vs = [vr, .int (t : Int), vm, .ref d] ∧ IsLs IsT H vr rows ∧ rows.length ≤ 900000 ∧ (∀ c ∈ rows, c.length = n) ∧ t < n ∧ IsLs IsM H vm ms ∧ ms.length ≤ 1000 ∧ MovesIn n ms ∧ H d = some (.dT (kd before)) ∧
  ∀ p H', Same H H' → H' p = some (.dT (kd (Rub.reaching rows t ms before))) → Q (.ref p) H'
theorem ok_reaching (D : DefAt K mg "reaching" s_reaching ["rows", "target", "moves", "before"]) (G1 : Has P w K mg base CX0 3 "can_reach" ["configuration", "target", "moves", "before"] sp_can_reach) :
    Has P w K mg base CX0 4 "reaching" ["rows", "target", "moves", "before"] sp_reaching := by
  refine has_of D sc_reaching (fun vs H Q E h => ?_) (fun fa cdv A outer s H vs Q E hr h => ?_)
  · obtain ⟨_, _, _, _, _, _, _, _, rfl, _⟩ := h
    rfl
  · obtain ⟨_, vm, d, rows, n, t, ms, before, rfl, ⟨l, us, rfl, hl, rl⟩, hrz, hok, ht, hm, hz, hin, hd, q⟩ := h
    refine ⟨_, pss_cons (ps_set (i := 4) sc_reaching.nd rfl (.inl rfl) pe_dnewT)
      (pss_cons (ps_for PassesOwn.never rfl (pi_list (pv 0)) (pg_name (i := 5) sc_reaching.nd rfl (.inl rfl))
        (pss_one (ps_if (pt_val (pe_f G1 hr (pa_cons (pv 5) (pa_cons (pv 1) (pa_cons (pv 2) (pa_cons (pv 3) pa_nil)))))) (pss_one (ps_dput (hu_of hr) (pv 4) (pv 5) pe_bl rfl)) pss_nil)))
      (pss_one (ps_ret (pv 4)))), ?_⟩
    refine fun d2 nd => ?_
    have hul : us.length = rows.length := Paired.length rl
    refine ⟨_, rfl, l, rfl, ⟨_, .inl (.inl (same_new nd _ _ hl))⟩, ?_⟩
    refine for_it (walk_list (xs := us)) (fun i σ H' => ∃ x5, σ = [some (.ref l), some (.int (t : Int)), some vm, some (.ref d), some (.ref d2), x5] ∧ Same H H' ∧ H' d2 = some (.dT (kd (Rub.reaching (rows.take i) t ms before))))
      ⟨none, rfl, same_new nd, upd_same⟩ (fun i σ H' _ p => ?_) ?_ ?_
    · obtain ⟨_, _, s1, _⟩ := p
      exact .inl (.inl (s1 _ _ hl))
    · rintro i x σ _ H1 hi ⟨x5, rfl, s1, hd2⟩ ⟨rfl, hx⟩
      have hir : i < rows.length := by omega
      have hmi : rows[i]? = some rows[i] := List.getElem?_eq_getElem hir
      have rx : IsT H1 x rows[i] := mono_T _ _ _ _ (Same.t s1) (rl.get hx hmi)
      have hmem : rows[i] ∈ rows := List.getElem_mem _
      have htk : Rub.reaching (rows.take (i + 1)) t ms before = if canR t ms before rows[i] = true then addNew (Rub.reaching (rows.take i) t ms before) rows[i] else Rub.reaching (rows.take i) t ms before := by
        unfold Rub.reaching
        rw [List.take_add_one, hmi, List.filter_append, List.foldl_append]
        by_cases hc : canR t ms before rows[i] = true
        · rw [if_pos hc]
          show List.foldl addNew _ (List.filter _ [rows[i]]) = _
          rw [List.filter_cons, if_pos hc]
          rfl
        · rw [if_neg hc]
          show List.foldl addNew _ (List.filter _ [rows[i]]) = _
          rw [List.filter_cons, if_neg hc]
          rfl
      have hpre : (Rub.reaching (rows.take i) t ms before).length ≤ 900000 := by
        unfold Rub.reaching
        refine Nat.le_trans (addNew_len _ _) ?_
        refine Nat.le_trans (Nat.add_le_add_left (List.length_filter_le _ _) _) ?_
        rw [List.length_take]
        show 0 + _ ≤ _
        omega
      generalize Rub.reaching (rows.take i) t ms before = pre at hd2 htk hpre
      generalize rows[i] = c at rx hmem htk
      have hcl := hok c hmem
      refine ⟨_, rfl, _, rfl, _, rfl, _, rfl, x, vm, d, c, t, ms, before, rfl, rx, by omega, IsLs.same mono_M s1 hm, hz, (by rw [hcl]; exact hin), s1 _ _ hd, fun H2 s2 => ⟨_, rfl, ite2 (fun e => ?_) (fun e => ?_)⟩⟩
      · obtain ⟨kc, rfl, hkc⟩ := rx.key
        rw [htk, if_pos e]
        refine ⟨_, rfl, _, rfl, d2, _, rfl, DPut.t (s2 _ _ hd2) (s2 _ _ hkc) (line_lt (by rw [kd_len]; omega)), ?_⟩
        rw [putK_kd]
        exact ⟨_, rfl, Same.upd (s1.trans s2) nd, upd_same⟩
      · rw [htk, if_neg e]
        exact ⟨_, rfl, s1.trans s2, s2 _ _ hd2⟩
    · rintro σ H1 ⟨x5, rfl, s1, hd2⟩
      rw [List.take_of_length_le (by omega)] at hd2
      exact ⟨_, rfl, q d2 _ s1 hd2⟩
/-! ### enough_pebbles -/
theorem sc_enough_pebbles : FnScope ["vertex_count", "diameter", "need", "turn"] ["vertex_count", "diameter"] (defScope s_enough_pebbles) := ⟨rfl, rfl, rfl, by decide +kernel, rfl, by decide +kernel, by decide +kernel⟩
def sp_enough_pebbles : Sp := fun vs H Q _ => ∃ (n d : Nat), vs = [.int (n : Int), .int (d : Int)] ∧ 1 ≤ n ∧ n ≤ 5 ∧ d ≤ 3 ∧ Q (.int (enoughN n d : Nat)) H
theorem ok_enough_pebbles (D : DefAt K mg "enough_pebbles" s_enough_pebbles ["vertex_count", "diameter"]) (B : Bi mg) : Has P w K mg base CX0 1 "enough_pebbles" ["vertex_count", "diameter"] sp_enough_pebbles := by
  refine has_of D sc_enough_pebbles (fun vs H Q E h => ?_) (fun fa cdv A outer s H vs Q E hr h => ?_)
  · obtain ⟨_, _, rfl, _⟩ := h
    rfl
  · obtain ⟨n, d, rfl, hn1, hn5, hd, q⟩ := h
    refine ⟨_, pss_cons (ps_set (i := 2) sc_enough_pebbles.nd rfl (.inl rfl) pe_int)
      (pss_cons (ps_for PassesOwn.never rfl (pi_range1 rfl B.range (pa_cons (pv 1) pa_nil)) (pg_name (i := 3) sc_enough_pebbles.nd rfl (.inl rfl))
        (pss_one (ps_set (i := 2) sc_enough_pebbles.nd rfl (.inl rfl) (pe_op op_mul pe_int (pv 2)))))
      (pss_one (ps_ret (pe_op op_add (pe_op op_mul (pe_op op_sub (pv 0) pe_int) (pe_op op_sub (pv 2) pe_int)) pe_int)))), ?_⟩
    refine ⟨_, rfl, (d : Int), rfl, by omega, by omega, ?_⟩
    rw [show (d : Int).toNat = d from rfl]
    refine for_it walk_range (fun i σ H' => ∃ x3, σ = [some (.int (n : Int)), some (.int (d : Int)), some (.int ((2 ^ i : Nat) : Int)), x3] ∧ H' = H) ⟨none, rfl, rfl⟩ (fun _ _ _ _ _ => trivial) ?_ ?_
    · rintro i x σ H1 _ hi ⟨x3, rfl, rfl⟩ ⟨rfl, ex⟩
      refine ⟨_, rfl, 2, _, rfl, rfl, .inl ⟨by decide, by decide⟩, some x, ?_, rfl⟩
      rw [show ((2 ^ (i + 1) : Nat) : Int) = (2 : Int) * ((2 ^ i : Nat) : Int) by rw [Nat.pow_succ]; omega]
      rfl
    · rintro σ H1 ⟨x3, rfl, rfl⟩
      refine ⟨_, rfl, _, _, rfl, rfl, _, rfl, _, _, rfl, rfl, _, _, rfl, rfl, .inl ⟨by omega, by omega⟩, _, _, rfl, rfl, q_int ?_ q⟩
      unfold enoughN
      have h1 : 1 ≤ 2 ^ d := Nat.one_le_two_pow
      rw [Int.natCast_add, Int.natCast_mul, Int.ofNat_sub hn1, Int.ofNat_sub h1]
      rfl
/-! ### least_number -/
theorem conf_many {n k : Nat} (hn1 : 1 ≤ n) (hn : n ≤ 5) (hk : k < 30) : (Ks578.configurations n k).length ≤ 900000 := by
  rw [← cfgs_is hn1]
  unfold cfgs
  rw [List.length_map]
  have h1 := rowsAt_len hk (n - 1)
  have h2 : (30 : Nat) ^ (n - 1) ≤ 30 ^ 4 := Nat.pow_le_pow_right (by decide) (by omega)
  have h3 : (30 : Nat) ^ 4 = 810000 := by decide
  omega
theorem firstOf_yes {U : Nat → Bool} {most k : Nat} (h1 : 1 ≤ k) (hk : k < most) (hU : U k = true) (hn : ∀ j, 1 ≤ j → j < k → U j = false) : firstOf U most = k := by
  unfold firstOf
  rw [find_range (p := fun k => decide (1 ≤ k) && U k) hk (by rw [hU, decide_eq_true h1]; rfl) (fun j hj => by
    by_cases h : 1 ≤ j
    · rw [hn j h hj, Bool.and_false]
    · rw [decide_eq_false h, Bool.false_and])]
  rfl
theorem firstOf_no {U : Nat → Bool} {most : Nat} (hn : ∀ j, 1 ≤ j → j < most → U j = false) : firstOf U most = most := by
  unfold firstOf
  rw [List.find?_eq_none.mpr fun j hj => ?_]
  · rfl
  · have hj := List.mem_range.mp hj
    by_cases h : 1 ≤ j
    · rw [hn j h hj, Bool.and_false]
      exact Bool.false_ne_true
    · rw [decide_eq_false h, Bool.false_and]
      exact Bool.false_ne_true
theorem sc_least_number : FnScope ["vertex_count", "target", "moves", "most", "before", "many", "rows"] ["vertex_count", "target", "moves", "most"] (defScope s_least_number) := ⟨rfl, rfl, rfl, by decide +kernel, rfl, by decide +kernel, by decide +kernel⟩
def sp_least_number : Sp := fun vs H Q _ => ∃ (vm : V) (n t most : Nat) (ms : List Mv), vs = [.int (n : Int), .int (t : Int), vm, .int (most : Int)] ∧ 1 ≤ n ∧ n ≤ 5 ∧ t < n ∧ 1 ≤ most ∧ most ≤ 30 ∧ IsLs IsM H vm ms ∧ ms.length ≤ 1000 ∧ MovesIn n ms ∧
  ∀ H', Same H H' → Q (.int (leastNumber n t ms most : Nat)) H'
theorem ok_least_number (D : DefAt K mg "least_number" s_least_number ["vertex_count", "target", "moves", "most"]) (B : Bi mg) (G1 : Has P w K mg base CX0 2 "configurations" ["vertex_count", "many"] sp_configurations)
    (G2 : Has P w K mg base CX0 4 "reaching" ["rows", "target", "moves", "before"] sp_reaching) : Has P w K mg base CX0 5 "least_number" ["vertex_count", "target", "moves", "most"] sp_least_number := by
  refine has_of D sc_least_number (fun vs H Q E h => ?_) (fun fa cdv A outer s H vs Q E hr h => ?_)
  · obtain ⟨_, _, _, _, _, rfl, _⟩ := h
    rfl
  · obtain ⟨vm, n, t, most, ms, rfl, hn1, hn5, ht, hm1, hm30, hm, hz, hin, q⟩ := h
    refine ⟨_, pss_cons (ps_set (i := 4) sc_least_number.nd rfl (.inl rfl) pe_dnewT)
      (pss_cons (ps_for PassesOwn.never rfl (pi_range2 rfl B.range (pa_cons pe_int (pa_cons (pv 3) pa_nil))) (pg_name (i := 5) sc_least_number.nd rfl (.inl rfl))
        (pss_cons (ps_set (i := 6) sc_least_number.nd rfl (.inl rfl) (pe_f G1 (hr.mono (by decide)) (pa_cons (pv 0) (pa_cons (pv 5) pa_nil))))
        (pss_cons (ps_set (i := 4) sc_least_number.nd rfl (.inl rfl) (pe_f G2 hr (pa_cons (pv 6) (pa_cons (pv 1) (pa_cons (pv 2) (pa_cons (pv 4) pa_nil))))))
        (pss_one (ps_if (pt_cmpR op_eq (pe_callB call_len_dT rfl B.len boot_len (pa_cons (pv 4) pa_nil)) (pe_callB call_len_seq rfl B.len boot_len (pa_cons (pv 6) pa_nil)) (nomark _)) (pss_one (ps_ret (pv 5))) pss_nil)))))
      (pss_one (ps_ret (pv 3)))), ?_⟩
    refine fun d nd => ?_
    refine ⟨_, rfl, 1, _, rfl, ⟨by decide, by decide, by omega, by omega⟩, ?_⟩
    rw [show ((most : Int) - 1).toNat = most - 1 by omega]
    refine for_it walk_range (fun i σ H' => ∃ d' x5 x6, σ = [some (.int (n : Int)), some (.int (t : Int)), some vm, some (.int (most : Int)), some (.ref d'), x5, x6] ∧ Same H H' ∧ H' d' = some (.dT (kd (bef n t ms i))) ∧ ∀ j, 1 ≤ j → j < i + 1 → ((bef n t ms j).length == (Ks578.configurations n j).length) = false)
      ⟨d, none, none, rfl, same_new nd, upd_same, fun j h1 h2 => by omega⟩ (fun _ _ _ _ _ => trivial) ?_ ?_
    · rintro i x σ _ H1 hi ⟨d', x5, x6, rfl, s1, hd, hno⟩ ⟨rfl, rfl⟩
      have hk : (1 : Int) + (i : Nat) = ((i + 1 : Nat) : Int) := by omega
      refine ⟨_, rfl, _, rfl, n, i + 1, (by rw [← hk]; rfl), hn1, hn5, by omega, fun vr H2 s2 hvr => ?_⟩
      refine ⟨_, rfl, _, rfl, _, rfl, _, rfl, vr, vm, d', _, n, t, ms, _, rfl, hvr, conf_many hn1 hn5 (by omega), fun c hc => (mem_configurations.mp hc).1, ht, IsLs.same mono_M (s1.trans s2) hm, hz, hin, s2 _ _ hd, fun d3 H3 s3 hd3 => ?_⟩
      have hd3 : H3 d3 = some (.dT (kd (bef n t ms (i + 1)))) := hd3
      obtain ⟨ar, us, rfl, har, rr⟩ := IsLs.same mono_T s3 hvr
      have hul : us.length = (Ks578.configurations n (i + 1)).length := Paired.length rr
      refine ⟨_, rfl, d3, _, rfl, hd3, _, rfl, ar, us, rfl, .inl (.inl (.inl har)), rfl, _, rfl, ?_⟩
      have he : decide (V.int (((kd (bef n t ms (i + 1))).length : Nat) : Int) = V.int ((us.length : Nat) : Int)) = ((bef n t ms (i + 1)).length == (Ks578.configurations n (i + 1)).length) := by
        rw [kd_len, hul, Bool.beq_eq_decide_eq]
        refine dec_eq ⟨fun e => ?_, fun e => by rw [e]⟩
        have := V.int.inj e
        omega
      have s4 := (s1.trans s2).trans s3
      refine ite2 (fun e => ?_) (fun e => ?_)
      · rw [he] at e
        refine ⟨_, rfl, q_int ?_ (q _ s4)⟩
        unfold leastNumber
        rw [firstOf_yes (U := fun k => (bef n t ms k).length == (Ks578.configurations n k).length) (k := i + 1) (by omega) (by omega) e hno]
        exact hk
      · rw [he] at e
        refine ⟨d3, _, _, rfl, s4, hd3, fun j h1 h2 => ?_⟩
        by_cases hj : j = i + 1
        · rw [hj]
          exact Bool.eq_false_iff.mpr e
        · exact hno j h1 (by omega)
    · rintro σ H1 ⟨d', x5, x6, rfl, s1, hd, hno⟩
      refine ⟨_, rfl, q_int ?_ (q _ s1)⟩
      unfold leastNumber
      rw [firstOf_no (U := fun k => (bef n t ms k).length == (Ks578.configurations n k).length) fun j h1 h2 => hno j h1 (by omega)]
/-! ### want -/
theorem sc_want : FnScope ["truth", "code"] ["truth", "code"] (defScope s_want) := ⟨rfl, rfl, rfl, by decide +kernel, rfl, by decide +kernel, by decide +kernel⟩
def sp_want (C : Addr) : Sp := fun vs H Q E => ∃ (b : Bool) (z : Int), vs = [.bl b, .int z] ∧ (b = true → Q .non H) ∧ (b = false → ∀ d H', Same H H' → H' d = some (.xd [("code", .int z)]) → E (.ref C) (some d) H')
theorem ok_want (D : DefAt K mg "want" s_want ["truth", "code"]) (T : RefTxt K mg C) : Has P w K mg base (L2.CX P w) 3 "want" ["truth", "code"] (sp_want C) := by
  obtain ⟨fI, fdI, FI, bI, iC, tI⟩ := T.fn
  have GI : FnOk P w K mg base CX0 1 fI fdI ["self", "code"] (sp_init K) := ok_init FI T.mV T.vV
  refine has_ofX D sc_want (fun vs H Q E h => ?_) (fun f cdv A outer s H vs Q E hr h => ?_)
  · obtain ⟨_, _, rfl, _⟩ := h
    rfl
  · obtain ⟨b, z, rfl, q1, q2⟩ := h
    refine ⟨_, pss_one (ps_if (pt_not (pt_val (pv 0))) (pss_one (ps_raise rfl (takes_of rfl rfl rfl rfl) (pmk_oex T.oex iC tI GI hr bI .nil pass0 rfl T.gC (pa_cons (pv 1) pa_nil)))) pss_nil), ?_⟩
    refine ⟨_, rfl, b, rfl, ?_⟩
    cases b with
    | true => exact iteF (q1 rfl)
    | false =>
      refine iteT ?_
      refine ⟨_, rfl, (by show 1 ≤ 1000; decide), fun a na => ⟨a, C, z, rfl, T.oex, T.nc, upd_same, fun dx nd ne => ⟨rfl, dx, _, upd_same, (by rw [upd_ne ne, upd_same]), (by rw [upd_ne ne] at nd; exact nd), ?_⟩⟩⟩
      rw [upd_ne ne] at nd
      refine q2 rfl dx _ (fun x o e => ?_) upd_same
      have n1 : x ≠ dx := ne_of_none e nd
      have n2 : x ≠ a := ne_of_none e na
      rw [upd_ne n1, del_ne n2, upd_ne n2, upd_ne n1, upd_ne n2]
      exact e
/-! ### pairs_of -/
theorem sc_pairs_of : FnScope ["numbers", "at"] ["numbers"] (defScope s_pairs_of) := ⟨rfl, rfl, rfl, by decide +kernel, rfl, by decide +kernel, by decide +kernel⟩
def sp_pairs_of (K : PySem.W.Frag) : Sp := fun vs H Q _ => ∃ (a : Addr) (ns : List Nat), vs = [.ref a] ∧ SqL K H a (ivs ns) ∧ ns.length % 2 = 0 ∧ ns.length ≤ 1000 ∧ ∀ v H', Same H H' → IsLs IsP H' v (edgesOf ns) → Q v H'
theorem ok_pairs_of (D : DefAt K mg "pairs_of" s_pairs_of ["numbers"]) (B : Bi mg) : Has P w K mg base CX0 1 "pairs_of" ["numbers"] (sp_pairs_of K) := by
  refine has_of D sc_pairs_of (fun vs H Q E h => ?_) (fun fa cdv A outer s H vs Q E hr h => ?_)
  · obtain ⟨_, _, rfl, _⟩ := h
    rfl
  · obtain ⟨a, ns, rfl, ha, he, hz, q⟩ := h
    refine ⟨_, pss_one (ps_ret (pe_lc (own := [("at", 1)]) (g := gName 1) (tt := tYes) rfl sc_pairs_of.nd (pi_range3 rfl B.range (pa_cons pe_int (pa_cons (pe_callB call_len_seq rfl B.len boot_len (pa_cons (pv 0) pa_nil)) (pa_cons pe_int pa_nil))))
      (blkOk_by (own := [("at", 1)]) (N := ["numbers", "at"]) (sc := defScope s_pairs_of) (by decide +kernel)) (fun _ _ _ _ _ => pg_name (i := 1) sc_pairs_of.nd rfl (.inl rfl)) (fun _ _ _ _ _ => pts_nil)
      (fun _ _ _ _ _ => pe_tup (pa_cons (pe_ix (r := rIxL K) ix_list (pv 0) (pv 1) (fun _ _ => rfl)) (pa_cons (pe_ix (r := rIxL K) ix_list (pv 0) (pe_op op_add (pv 1) pe_int) (fun _ _ => rfl)) pa_nil))))), ?_⟩
    refine ⟨_, rfl, a, _, rfl, .inl ha, 0, _, 2, _, rfl, by rw [ivs_len]; exact rgC_2 (by omega), fun L nL => ?_⟩
    refine lc_map walk_rangeC mono_P (List.range ((ns.length + 1) / 2)) (List.length_range ..) (by omega) (fun _ => true) (fun i => (ns.getD (2 * i) 0, ns.getD (2 * i + 1) 0)) nL (fun _ _ => trivial) ?_ ?_
    · rintro i b x H1 H2 KK K0 hb s1 ⟨rfl, rfl⟩ k1 _
      have hi : i < (ns.length + 1) / 2 := by
        have := (List.getElem?_eq_some_iff.mp hb).1
        simpa using this
      have eb : b = i := by
        rw [List.getElem?_range hi] at hb
        exact (Option.some.inj hb).symm
      subst eb
      have h1 : 2 * b < ns.length := by omega
      have h2 : 2 * b + 1 < ns.length := by omega
      have e1 : (0 : Int) + (b : Nat) * 2 = ((2 * b : Nat) : Int) := by omega
      have e2 : (0 : Int) + (b : Nat) * 2 + 1 = ((2 * b + 1 : Nat) : Int) := by omega
      refine ⟨rfl, yes_of (iteT ?_)⟩
      exact ⟨_, rfl, _, rfl, a, _, _, _, rfl, rfl, Same.seq s1 ha, ivs_atz e1 h1, _, rfl, _, rfl, _, _, rfl, rfl, a, _, _, _, rfl, rfl, Same.seq s1 ha, ivs_atz e2 h2, (by show 2 ≤ sizeLine; decide), fun p np => k1 rfl _ _ (same_new np) ⟨p, rfl, upd_same⟩⟩
    · intro H1 acc s1 hacc hr2
      rw [edgesOf_range ns he] at hr2
      exact q _ _ s1 ⟨L, acc, rfl, hacc, hr2⟩
/-! ### is_rising -/
theorem sc_is_rising : FnScope ["pairs", "before", "pair"] ["pairs"] (defScope s_is_rising) := ⟨rfl, rfl, rfl, by decide +kernel, rfl, by decide +kernel, by decide +kernel⟩
def sp_is_rising : Sp := fun vs H Q _ => ∃ (v : V) (ps : List (Nat × Nat)), vs = [v] ∧ IsLs IsP H v ps ∧ ps.length ≤ 1000 ∧ ∀ H', Same H H' → Q (.bl (isRising ps)) H'
theorem cut_1 (xs : List V) : cutV xs (some 1) none = xs.drop 1 := by
  unfold cutV
  rw [show HT.sIx xs.length 0 (some 1) = min 1 xs.length from HT.sIx_nat xs.length 0 1, HT.sIx_none]
  cases xs with
  | nil => rfl
  | cons x r =>
    rw [show min 1 (x :: r).length = 1 by
      rw [List.length_cons]
      omega]
    show (List.take ((x :: r).length - 1) r) = r
    rw [List.length_cons, Nat.add_sub_cancel]
    exact List.take_length
theorem ok_is_rising (D : DefAt K mg "is_rising" s_is_rising ["pairs"]) (B : Bi mg) : Has P w K mg base CX0 1 "is_rising" ["pairs"] sp_is_rising := by
  refine has_of D sc_is_rising (fun vs H Q E h => ?_) (fun fa cdv A outer s H vs Q E hr h => ?_)
  · obtain ⟨_, _, rfl, _⟩ := h
    rfl
  · obtain ⟨_, ps, rfl, ⟨a, us, rfl, ha, ra⟩, hz, q⟩ := h
    refine ⟨_, pss_one (ps_ret (pe_callB (cr_all rfl) rfl B.all boot_all (pa_cons (pe_lc (own := [("before", 1), ("pair", 2)]) (g := gTup K 2 (gCons (gName 1) (gCons (gName 2) gNil))) (tt := tYes) rfl sc_is_rising.nd
      (pi_zip rfl B.zip (pa_cons (pv 0) (pa_cons (pe_slice sl_list (pv 0) (po_some pe_int) po_none) pa_nil)))
      (blkOk_by (own := [("before", 1), ("pair", 2)]) (N := ["pairs", "before", "pair"]) (sc := defScope s_is_rising) (by decide +kernel))
      (fun _ _ _ _ _ => pg_tup rfl (pgs_cons (pg_name (i := 1) sc_is_rising.nd rfl (.inl rfl)) (pgs_cons (pg_name (i := 2) sc_is_rising.nd rfl (.inl rfl)) pgs_nil))) (fun _ _ _ _ _ => pts_nil)
      (fun _ _ _ _ _ => pe_cmpR (r := rLtT K) (op_ltT hr.units0) (pv 1) (pv 2) (nomark _))) pa_nil))), ?_⟩
    refine ⟨_, rfl, _, rfl, 1, rfl, a, us, rfl, .inl (.inl ha), fun c nc => ?_⟩
    have s1 : Same H (upd H c (.lst (cutV us (some 1) none))) := same_new nc
    have hl : us.length = ps.length := Paired.length ra
    refine ⟨a, c, us, _, rfl, .inl (.inl (s1 _ _ ha)), .inl (.inl upd_same), fun L nL => ?_⟩
    refine lc_map (walk_zip (xs := us) (ys := cutV us (some 1) none) rfl) mono_B (ps.zip (ps.drop 1)) (by rw [cut_1, List.length_zip, List.length_drop, List.length_drop, hl]) (by rw [cut_1, List.length_drop]; omega) (fun _ => true) (fun x => ltP x.1 x.2) nL
      (fun H2 s2 => ⟨.inl (.inl (s2 _ _ (s1 _ _ ha))), .inl (.inl (s2 _ _ upd_same))⟩) ?_ ?_
    · rintro i b x H1 H2 KK K0 hb s2 ⟨T, y1, y2, rfl, nT, rfl, f1, f2⟩ k1 _
      obtain ⟨b1, b2⟩ := b
      have hb' : ps[i]? = some b1 ∧ (ps.drop 1)[i]? = some b2 := by
        rw [List.getElem?_zip_eq_some] at hb
        exact hb
      obtain ⟨g1, g2⟩ := hb'
      have r1 : IsP H y1 b1 := ra.get f1 g1
      have r2 : IsP H y2 b2 := by
        have f2 : (cutV us (some 1) none)[i]? = some y2 := f2
        rw [cut_1, List.getElem?_drop] at f2
        rw [List.getElem?_drop] at g2
        exact ra.get f2 g2
      have s3 : Same H1 (upd H1 T (.tup [y1, y2])) := same_new nT
      obtain ⟨a1, rfl, q1⟩ := mono_P _ _ _ _ (Same.t ((s1.trans s2).trans s3)) r1
      obtain ⟨a2, rfl, q2⟩ := mono_P _ _ _ _ (Same.t ((s1.trans s2).trans s3)) r2
      rw [ivs_ints] at q1 q2
      refine ⟨T, _, rfl, .inl (.inl upd_same), rfl, _, _, rfl, _, _, rfl, rfl, rfl, yes_of (iteT ?_)⟩
      exact ⟨_, rfl, _, rfl, a1, a2, _, _, rfl, rfl, .inl (.inl q1), .inl (.inl q2), k1 rfl _ _ s3 (by rw [lexLt_pl]; exact rfl)⟩
    · intro H1 acc s2 hacc hr2
      rw [all_keep] at hr2
      rw [AllR.bools hr2] at hacc
      refine ⟨L, _, rfl, .inl (.inl hacc), q_bl ?_ (q H1 (s1.trans s2))⟩
      unfold isRising
      rw [List.all_map]
      rfl
/-! ### are_edges -/
theorem sc_are_edges : FnScope ["vertex_count", "numbers", "pairs", "low", "high"] ["vertex_count", "numbers"] (defScope s_are_edges) := ⟨rfl, rfl, rfl, by decide +kernel, rfl, by decide +kernel, by decide +kernel⟩
def sp_are_edges (K : PySem.W.Frag) : Sp := fun vs H Q _ => ∃ (n : Nat) (a : Addr) (es : List Nat), vs = [.int (n : Int), .ref a] ∧ SqL K H a (ivs es) ∧ es.length ≤ 1000 ∧ ∀ H', Same H H' → Q (.bl (areEdges n es)) H'
theorem ok_are_edges (D : DefAt K mg "are_edges" s_are_edges ["vertex_count", "numbers"]) (B : Bi mg) (G1 : Has P w K mg base CX0 1 "pairs_of" ["numbers"] (sp_pairs_of K)) (G2 : Has P w K mg base CX0 1 "is_rising" ["pairs"] sp_is_rising) :
    Has P w K mg base CX0 2 "are_edges" ["vertex_count", "numbers"] (sp_are_edges K) := by
  refine has_of D sc_are_edges (fun vs H Q E h => ?_) (fun fa cdv A outer s H vs Q E hr h => ?_)
  · obtain ⟨_, _, _, rfl, _⟩ := h
    rfl
  · obtain ⟨n, a, es, rfl, ha, hz, q⟩ := h
    refine ⟨_, pss_cons (ps_if (pt_cmpR op_ne (pe_op op_mod (pe_callB call_len_seq rfl B.len boot_len (pa_cons (pv 1) pa_nil)) pe_int) pe_int (nomark _)) (pss_one (ps_ret pe_bl)) pss_nil)
      (pss_cons (ps_set (i := 2) sc_are_edges.nd rfl (.inl rfl) (pe_f G1 hr (pa_cons (pv 1) pa_nil)))
      (pss_one (ps_ret (pe_and (pe_callB (cr_all rfl) rfl B.all boot_all (pa_cons (pe_lc (own := [("low", 3), ("high", 4)]) (g := gTup K 2 (gCons (gName 3) (gCons (gName 4) gNil))) (tt := tYes) rfl sc_are_edges.nd (pi_list (pv 2))
        (blkOk_by (own := [("low", 3), ("high", 4)]) (N := ["vertex_count", "numbers", "pairs", "low", "high"]) (sc := defScope s_are_edges) (by decide +kernel))
        (fun _ _ _ _ _ => pg_tup rfl (pgs_cons (pg_name (i := 3) sc_are_edges.nd rfl (.inl rfl)) (pgs_cons (pg_name (i := 4) sc_are_edges.nd rfl (.inl rfl)) pgs_nil))) (fun _ _ _ _ _ => pts_nil)
        (fun _ _ _ _ _ => pe_and (pe_cmpR op_lt (pv 3) (pv 4) (nomark _)) (pe_one (pe_cmpR op_lt (pv 4) (pv 0) (nomark _))))) pa_nil)) (pe_one (pe_f G2 hr (pa_cons (pv 2) pa_nil))))))), ?_⟩
    refine ⟨_, rfl, a, _, rfl, .inl ha, _, _, rfl, rfl, (by show (0 : Int) < 2; decide), rfl, _, rfl, ite2 (fun e => ?_) (fun e => ?_)⟩
    · refine q_bl ?_ (q H (Same.refl H))
      have e : (!decide (V.int (((ivs es).length : Int) % 2) = V.int 0)) = true := e
      have e' : ¬ (((ivs es).length : Int) % 2 = 0) := fun z => by rw [z] at e; simp at e
      rw [ivs_len] at e'
      unfold areEdges
      have : (es.length % 2 == 0) = false := by
        rw [beq_eq_false_iff_ne]
        omega
      rw [this, Bool.false_and]
    · have e : ¬ (!decide (V.int (((ivs es).length : Int) % 2) = V.int 0)) = true := e
      have e' : ((ivs es).length : Int) % 2 = 0 := by
        rw [Bool.not_eq_true, Bool.not_eq_false'] at e
        exact V.int.inj (of_decide_eq_true e)
      rw [ivs_len] at e'
      have he : es.length % 2 = 0 := by omega
      have hE : areEdges n es = (inRange n (edgesOf es) && isRising (edgesOf es)) := by
        unfold areEdges
        rw [he]
        rfl
      have hpl := edgesOf_le es
      refine ⟨_, rfl, a, es, rfl, ha, he, hz, fun v H1 s1 hv => ?_⟩
      obtain ⟨b, us, rfl, hb, rb⟩ := id hv
      have hlu : (edgesOf es).length = us.length := (Paired.length rb).symm
      refine ⟨_, rfl, b, rfl, ⟨_, .inl (.inl hb)⟩, fun L nL => ?_⟩
      refine lc_map (walk_list (xs := us)) mono_B (edgesOf es) hlu (by omega) (fun _ => true) (fun p => decide (p.1 < p.2) && decide (p.2 < n)) nL (fun H2 s2 => .inl (.inl (s2 _ _ hb))) ?_ ?_
      · rintro i ⟨lo, hi⟩ x _ H2 KK K0 hbb s2 ⟨rfl, hx⟩ k1 _
        have r1 : IsP H1 x (lo, hi) := rb.get hx hbb
        obtain ⟨t, rfl, ht⟩ := mono_P _ _ _ _ (Same.t s2) r1
        have ht : H2 t = some (.tup [.int (lo : Int), .int (hi : Int)]) := ht
        refine ⟨t, _, rfl, .inl (.inl ht), rfl, _, _, rfl, _, _, rfl, rfl, rfl, yes_of (iteT ?_)⟩
        refine ⟨_, rfl, _, rfl, _, _, rfl, rfl, _, rfl, ite2 (fun e1 => ?_) (fun e1 => ?_)⟩
        · refine ⟨_, rfl, _, rfl, _, _, rfl, rfl, k1 rfl _ _ (Same.refl _) ?_⟩
          have := of_decide_eq_true e1
          show V.bl (decide ((hi : Int) < (n : Int))) = V.bl (decide (lo < hi) && decide (hi < n))
          rw [decide_eq_true (show lo < hi by omega), Bool.true_and]
          exact congrArg V.bl (dec_eq (by omega))
        · refine k1 rfl _ _ (Same.refl _) ?_
          have : ¬ (lo : Int) < (hi : Int) := fun z => e1 (decide_eq_true z)
          show V.bl false = V.bl (decide (lo < hi) && decide (hi < n))
          rw [decide_eq_false (show ¬ lo < hi by omega), Bool.false_and]
      · intro H2 acc s2 hacc hr2
        rw [all_keep] at hr2
        rw [AllR.bools hr2] at hacc
        refine ⟨L, _, rfl, .inl (.inl hacc), _, rfl, ite2 (fun e1 => ?_) (fun e1 => ?_)⟩
        · have e1 : (((edgesOf es).map fun p => decide (p.1 < p.2) && decide (p.2 < n)).all id) = true := e1
          rw [List.all_map] at e1
          refine ⟨_, rfl, _, edgesOf es, rfl, IsLs.same mono_P s2 hv, by omega, fun H3 s3 => q_bl ?_ (q H3 ((s1.trans s2).trans s3))⟩
          rw [hE, show inRange n (edgesOf es) = true from e1, Bool.true_and]
        · have e1 : ¬ (((edgesOf es).map fun p => decide (p.1 < p.2) && decide (p.2 < n)).all id) = true := e1
          rw [List.all_map] at e1
          refine q_bl ?_ (q H2 (s1.trans s2))
          rw [hE, show inRange n (edgesOf es) = false from Bool.eq_false_iff.mpr e1, Bool.false_and]
/-! ### are_adjacent -/
theorem sc_are_adjacent : FnScope ["pairs", "vertex", "other"] ["pairs", "vertex", "other"] (defScope s_are_adjacent) := ⟨rfl, rfl, rfl, by decide +kernel, rfl, by decide +kernel, by decide +kernel⟩
def sp_are_adjacent : Sp := fun vs H Q _ => ∃ (v : V) (ps : List (Nat × Nat)) (a b : Nat), vs = [v, .int (a : Int), .int (b : Int)] ∧ IsLs IsP H v ps ∧ ∀ H', Same H H' → Q (.bl (adj ps a b)) H'
theorem ok_are_adjacent (D : DefAt K mg "are_adjacent" s_are_adjacent ["pairs", "vertex", "other"]) : Has P w K mg base CX0 1 "are_adjacent" ["pairs", "vertex", "other"] sp_are_adjacent := by
  refine has_of D sc_are_adjacent (fun vs H Q E h => ?_) (fun fa cdv A outer s H vs Q E hr h => ?_)
  · obtain ⟨_, _, _, _, rfl, _⟩ := h
    rfl
  · obtain ⟨v, ps, a, b, rfl, hv, q⟩ := h
    refine ⟨_, pss_one (ps_ret (pe_or (pe_cmpR (op_inD (Room.u65 hr)) (pe_tup (pa_cons (pv 1) (pa_cons (pv 2) pa_nil))) (pv 0) rfl) (pe_one (pe_cmpR (op_inD (Room.u65 hr)) (pe_tup (pa_cons (pv 2) (pa_cons (pv 1) pa_nil))) (pv 0) rfl)))), ?_⟩
    refine ⟨_, rfl, _, rfl, (by show 2 ≤ sizeLine; decide), fun p np => ?_⟩
    have s1 : Same H (upd H p (.tup [.int (a : Int), .int (b : Int)])) := same_new np
    have t1 : IsP (upd H p (.tup [.int (a : Int), .int (b : Int)])) (.ref p) (a, b) := ⟨p, rfl, upd_same⟩
    refine ⟨_, rfl, pD (a, b), ps.map pD, dp_T t1, dp_L (IsLs.same mono_P s1 hv), pD_shaped _, pDs_shaped ps, _, rfl, ite2 (fun e => ?_) (fun e => ?_)⟩
    · have e : ((ps.map pD).any fun z => PyData.eqv z (pD (a, b))) = true := e
      rw [any_pD] at e
      refine q_bl ?_ (q _ s1)
      show true = (ps.contains (a, b) || ps.contains (b, a))
      rw [e, Bool.true_or]
    · have e : ¬ ((ps.map pD).any fun z => PyData.eqv z (pD (a, b))) = true := e
      rw [any_pD] at e
      refine ⟨_, rfl, _, rfl, (by show 2 ≤ sizeLine; decide), fun p' np' => ?_⟩
      have s2 : Same _ (upd (upd H p (.tup [.int (a : Int), .int (b : Int)])) p' (.tup [.int (b : Int), .int (a : Int)])) := same_new np'
      have t2 : IsP (upd (upd H p (.tup [.int (a : Int), .int (b : Int)])) p' (.tup [.int (b : Int), .int (a : Int)])) (.ref p') (b, a) := ⟨p', rfl, upd_same⟩
      refine ⟨_, rfl, pD (b, a), ps.map pD, dp_T t2, dp_L (IsLs.same mono_P (s1.trans s2) hv), pD_shaped _, pDs_shaped ps, q_bl ?_ (q _ (s1.trans s2))⟩
      rw [any_pD]
      show _ = (ps.contains (a, b) || ps.contains (b, a))
      rw [Bool.eq_false_iff.mpr e, Bool.false_or]
/-! ### neighbours -/
theorem sc_neighbours : FnScope ["vertex_count", "pairs", "vertex", "other"] ["vertex_count", "pairs", "vertex"] (defScope s_neighbours) := ⟨rfl, rfl, rfl, by decide +kernel, rfl, by decide +kernel, by decide +kernel⟩
def sp_neighbours : Sp := fun vs H Q _ => ∃ (n u : Nat) (v : V) (ps : List (Nat × Nat)), vs = [.int (n : Int), v, .int (u : Int)] ∧ n ≤ 1000 ∧ IsLs IsP H v ps ∧ ∀ x H', Same H H' → IsT H' x (nbrs n ps u) → Q x H'
theorem ok_neighbours (D : DefAt K mg "neighbours" s_neighbours ["vertex_count", "pairs", "vertex"]) (B : Bi mg) (G1 : Has P w K mg base CX0 1 "are_adjacent" ["pairs", "vertex", "other"] sp_are_adjacent) :
    Has P w K mg base CX0 2 "neighbours" ["vertex_count", "pairs", "vertex"] sp_neighbours := by
  refine has_of D sc_neighbours (fun vs H Q E h => ?_) (fun fa cdv A outer s H vs Q E hr h => ?_)
  · obtain ⟨_, _, _, _, rfl, _⟩ := h
    rfl
  · obtain ⟨n, u, v, ps, rfl, hn, hv, q⟩ := h
    refine ⟨_, pss_one (ps_ret (pe_callTy call_tuple_of rfl B.tuple boot_tuple (pa_cons (pe_lc (own := [("other", 3)]) (g := gName 3) rfl sc_neighbours.nd (pi_range1 rfl B.range (pa_cons (pv 0) pa_nil))
      (blkOk_by (own := [("other", 3)]) (N := ["vertex_count", "pairs", "vertex", "other"]) (sc := defScope s_neighbours) (by decide +kernel)) (fun _ _ _ _ _ => pg_name (i := 3) sc_neighbours.nd rfl (.inl rfl))
      (fun _ _ _ _ _ => pts_one (pt_val (pe_f G1 hr (pa_cons (pv 1) (pa_cons (pv 2) (pa_cons (pv 3) pa_nil)))))) (fun _ _ _ _ _ => pv 3)) pa_nil))), ?_⟩
    refine ⟨_, rfl, (n : Int), rfl, by omega, by omega, fun L nL => ?_⟩
    rw [show (n : Int).toNat = n from rfl]
    refine lc_map walk_range mono_N (List.range n) (List.length_range ..) (by omega) (fun o => adj ps u o) (fun o => o) nL (fun _ _ => trivial) ?_ ?_
    · rintro i b x H1 _ KK K0 hb s1 ⟨rfl, rfl⟩ k1 k0
      have hi : i < n := by
        have := (List.getElem?_eq_some_iff.mp hb).1
        simpa using this
      have eb : b = i := by
        rw [List.getElem?_range hi] at hb
        exact (Option.some.inj hb).symm
      subst eb
      have e0 : V.int (0 + (b : Nat)) = V.int (b : Int) := by rw [Int.zero_add]
      refine ⟨rfl, _, rfl, _, rfl, _, rfl, v, ps, u, b, (by rw [← e0]; rfl), IsLs.same mono_P s1 hv, fun H2 s2 => ⟨_, rfl, ite2 (fun e => ?_) (fun e => ?_)⟩⟩
      · exact ⟨_, rfl, k1 e _ _ s2 e0⟩
      · exact k0 (Bool.eq_false_iff.mpr e) _ s2
    · intro H1 acc s1 hacc hr2
      rw [List.map_id'] at hr2
      refine ⟨L, acc, rfl, .inl ⟨.inl (.inl hacc), fun p np => q _ _ (Same.upd s1 (none_of s1 np)) ⟨p, rfl, ?_⟩⟩⟩
      rw [upd_same, AllR.nats hr2]
      rfl
/-! ### read_graph -/
theorem sc_read_graph : FnScope ["vertex_count", "edges", "pairs", "vertex"] ["vertex_count", "edges"] (defScope s_read_graph) := ⟨rfl, rfl, rfl, by decide +kernel, rfl, by decide +kernel, by decide +kernel⟩
def sp_read_graph (K : PySem.W.Frag) (C : Addr) : Sp := fun vs H Q E => ∃ (n : Nat) (a : Addr) (es : List Nat), vs = [.int (n : Int), .ref a] ∧ SqL K H a (ivs es) ∧ es.length ≤ 1000 ∧
  (graphOk n es = true → ∀ v H', Same H H' → IsTs IsT H' v (graphOf n (edgesOf es)) → Q v H') ∧ (graphOk n es = false → Ref E C H (-22))
theorem ok_read_graph (D : DefAt K mg "read_graph" s_read_graph ["vertex_count", "edges"]) (B : Bi mg) (c1 : ConAt mg "MOST_VERTICES" 5) (c2 : ConAt mg "OUT_OF_LIMITS" (-22)) (GW : Has P w K mg base (L2.CX P w) 3 "want" ["truth", "code"] (sp_want C))
    (G1 : Has P w K mg base CX0 2 "are_edges" ["vertex_count", "numbers"] (sp_are_edges K)) (G2 : Has P w K mg base CX0 1 "pairs_of" ["numbers"] (sp_pairs_of K)) (G3 : Has P w K mg base CX0 2 "neighbours" ["vertex_count", "pairs", "vertex"] sp_neighbours) :
    Has P w K mg base (L2.CX P w) 4 "read_graph" ["vertex_count", "edges"] (sp_read_graph K C) := by
  refine has_ofX D sc_read_graph (fun vs H Q E h => ?_) (fun fa cdv A outer s H vs Q E hr h => ?_)
  · obtain ⟨_, _, _, rfl, _⟩ := h
    rfl
  · obtain ⟨n, a, es, rfl, ha, hz, q1, q2⟩ := h
    refine ⟨_, pss_cons (ps_expr (pe_fX (E := E) GW hr (takes_of rfl rfl rfl rfl) (pa_cons (pe_and (pe_cmpR op_le pe_int (pv 0) (nomark _)) (pe_one (pe_cmpR op_le (pv 0) (pe_con_at c1) (nomark _)))) (pa_cons (pe_con_at c2) pa_nil))))
      (pss_cons (ps_expr (pe_fX (E := E) GW hr (takes_of rfl rfl rfl rfl) (pa_cons (pe_f G1 (hr.mono (by decide)) (pa_cons (pv 0) (pa_cons (pv 1) pa_nil))) (pa_cons (pe_con_at c2) pa_nil))))
      (pss_cons (ps_set (i := 2) sc_read_graph.nd rfl (.inr rfl) (pe_f G2 (hr.mono (by decide)) (pa_cons (pv 1) pa_nil)))
      (pss_one (ps_ret (pe_callTy call_tuple_of rfl B.tuple boot_tuple (pa_cons (pe_lc (own := [("vertex", 3)]) (g := gName 3) (tt := tYes) rfl sc_read_graph.nd (pi_range1 rfl B.range (pa_cons (pv 0) pa_nil))
        (blkOk_by (own := [("vertex", 3)]) (N := ["vertex_count", "edges", "pairs", "vertex"]) (sc := defScope s_read_graph) (by decide +kernel)) (fun _ _ _ _ _ => pg_name (i := 3) sc_read_graph.nd rfl (.inl rfl))
        (fun _ _ _ _ _ => pts_nil) (fun _ _ _ _ _ => pe_f G3 (hr.mono (by decide)) (pa_cons (pv 0) (pa_cons (pv 2) (pa_cons (pv 3) pa_nil))))) pa_nil)))))), ?_⟩
    refine ⟨_, rfl, _, _, rfl, rfl, _, rfl, ite2 (fun e1 => ?_) (fun e1 => ?_)⟩
    · have e1 := of_decide_eq_true e1
      refine ⟨_, rfl, _, _, rfl, rfl, _, -22, rfl, fun hb => ?_, fun hb => q2 ?_⟩
      rotate_left
      · have hb : decide ((n : Int) ≤ 5) = false := hb
        have hb := of_decide_eq_false hb
        unfold graphOk
        rw [decide_eq_false (show ¬ n ≤ 5 by omega), Bool.and_false, Bool.false_and]
      · have hn5 : (n : Int) ≤ 5 := of_decide_eq_true hb
        have hgo : graphOk n es = areEdges n es := by
          unfold graphOk
          rw [decide_eq_true (show 1 ≤ n by omega), decide_eq_true (show n ≤ 5 by omega)]
          rfl
        refine ⟨_, rfl, _, rfl, n, a, es, rfl, ha, hz, fun H1 s1 => ⟨areEdges n es, -22, rfl, fun hE => ?_, fun hE => (q2 (hgo.trans hE)).of s1⟩⟩
        have he : es.length % 2 = 0 := by
          unfold areEdges at hE
          rw [Bool.and_eq_true] at hE
          exact eq_of_beq hE.1
        refine ⟨_, rfl, a, es, rfl, Same.seq s1 ha, he, hz, fun v H2 s2 hv => ?_⟩
        refine ⟨_, rfl, (n : Int), rfl, by omega, by omega, fun L nL => ?_⟩
        rw [show (n : Int).toNat = n from rfl]
        refine lc_map walk_range mono_T (List.range n) (List.length_range ..) (by omega) (fun _ => true) (fun x => nbrs n (edgesOf es) x) nL (fun _ _ => trivial) ?_ ?_
        · rintro i b x H3 _ KK K0 hb s3 ⟨rfl, rfl⟩ k1 k0
          have hi : i < n := by
            have := (List.getElem?_eq_some_iff.mp hb).1
            simpa using this
          have eb : b = i := by
            rw [List.getElem?_range hi] at hb
            exact (Option.some.inj hb).symm
          subst eb
          have e0 : V.int (0 + (b : Nat)) = V.int (b : Int) := by rw [Int.zero_add]
          refine ⟨rfl, yes_of (iteT ?_)⟩
          exact ⟨_, rfl, _, rfl, _, rfl, n, b, v, edgesOf es, (by rw [← e0]; rfl), by omega, IsLs.same mono_P s3 hv, fun y H4 s4 r4 => k1 rfl _ _ s4 r4⟩
        · intro H3 acc s3 hacc hr2
          rw [all_keep] at hr2
          refine ⟨L, acc, rfl, .inl ⟨.inl (.inl hacc), fun p np => q1 (hgo.trans hE) _ _ (Same.upd ((s1.trans s2).trans s3) (none_of ((s1.trans s2).trans s3) np)) ⟨p, acc, rfl, upd_same, AllR.mono mono_T (Same.t (same_new np)) hr2⟩⟩⟩
    · refine ⟨false, -22, rfl, fun hb => Bool.noConfusion hb, fun _ => q2 ?_⟩
      have e1 : ¬ (1 : Int) ≤ (n : Int) := fun z => e1 (decide_eq_true z)
      unfold graphOk
      rw [decide_eq_false (show ¬ 1 ≤ n by omega), Bool.false_and, Bool.false_and]
/-! ### is_next_to -/
def ov : Option Nat → V
  | none => .int (-1)
  | some k => .int (k : Int)
theorem ov_inj {a b : Option Nat} : (ov a = ov b) ↔ a = b := by
  constructor
  · intro e
    cases a with
    | none =>
      cases b with
      | none => rfl
      | some k => exact absurd (V.int.inj e) (by omega)
    | some j =>
      cases b with
      | none => exact absurd (V.int.inj e) (by omega)
      | some k =>
        have := V.int.inj e
        rw [show j = k by omega]
  · intro e
    rw [e]
theorem ov_scal (a : Option Nat) (z : Int) : scal (ov a) (.int z) = true := by cases a <;> rfl
theorem ov_at {known : List (Option Nat)} {i : Nat} (h : i < known.length) : atI (known.map ov) (i : Int) = some (ov (known.getD i none)) := atI_nat (by
  rw [List.getElem?_map, List.getElem?_eq_getElem h, List.getD_eq_getElem?_getD, List.getElem?_eq_getElem h]
  rfl)
theorem gr_at {H : Hp} {gs : List V} {gr : Gr} {v : Nat} (rg : AllR IsT H gs gr) (h : v < gr.length) : ∃ a, atI gs (v : Int) = some (.ref a) ∧ H a = some (.tup (ivs (gr.getD v []))) := by
  obtain ⟨x, hx, ⟨a, rfl, ha⟩⟩ := rg.at (List.getElem?_eq_getElem h)
  refine ⟨a, atI_nat hx, ?_⟩
  rw [List.getD_eq_getElem?_getD, List.getElem?_eq_getElem h]
  exact ha
theorem sc_is_next_to : FnScope ["graph", "known", "vertex", "distance", "other"] ["graph", "known", "vertex", "distance"] (defScope s_is_next_to) := ⟨rfl, rfl, rfl, by decide +kernel, rfl, by decide +kernel, by decide +kernel⟩
def sp_is_next_to : Sp := fun vs H Q _ => ∃ (vg : V) (l : Addr) (gr : Gr) (known : List (Option Nat)) (v d : Nat), vs = [vg, .ref l, .int (v : Int), .int (d : Int)] ∧ IsTs IsT H vg gr ∧ H l = some (.lst (known.map ov)) ∧ v < gr.length ∧ (∀ near ∈ gr, near.length ≤ 1000 ∧ ∀ o ∈ near, o < known.length) ∧
  ∀ H', Same H H' → Q (.bl (isNext gr known v d)) H'
theorem ok_is_next_to (D : DefAt K mg "is_next_to" s_is_next_to ["graph", "known", "vertex", "distance"]) (B : Bi mg) : Has P w K mg base CX0 1 "is_next_to" ["graph", "known", "vertex", "distance"] sp_is_next_to := by
  refine has_of D sc_is_next_to (fun vs H Q E h => ?_) (fun fa cdv A outer s H vs Q E hr h => ?_)
  · obtain ⟨_, _, _, _, _, _, rfl, _⟩ := h
    rfl
  · obtain ⟨_, l, gr, known, v, d, rfl, ⟨g, gs, rfl, hg, rg⟩, hl, hv, hok, q⟩ := h
    refine ⟨_, pss_one (ps_ret (pe_callB (cr_any rfl) rfl B.any boot_any (pa_cons (pe_lc (own := [("other", 4)]) (g := gName 4) (tt := tYes) rfl sc_is_next_to.nd (pi_tup (pe_ix ix_tup (pv 0) (pv 2) (fun _ _ => rfl)))
      (blkOk_by (own := [("other", 4)]) (N := ["graph", "known", "vertex", "distance", "other"]) (sc := defScope s_is_next_to) (by decide +kernel)) (fun _ _ _ _ _ => pg_name (i := 4) sc_is_next_to.nd rfl (.inl rfl)) (fun _ _ _ _ _ => pts_nil)
      (fun _ _ _ _ _ => pe_cmpR op_eq (pe_ix (r := rIxL K) ix_list (pv 1) (pv 4) (fun _ _ => rfl)) (pv 3) (nomark _))) pa_nil))), ?_⟩
    obtain ⟨a, hat, ha⟩ := gr_at rg hv
    have hmem : gr.getD v [] ∈ gr := by
      rw [List.getD_eq_getElem?_getD, List.getElem?_eq_getElem hv]
      exact List.getElem_mem _
    obtain ⟨hnz, hno⟩ := hok _ hmem
    refine ⟨_, rfl, _, rfl, g, gs, _, _, rfl, rfl, .inl (.inl hg), hat, a, rfl, ⟨_, .inl (.inl ha)⟩, fun L nL => ?_⟩
    refine lc_map (walk_tup (xs := ivs (gr.getD v []))) mono_B (gr.getD v []) (ivs_len _).symm (by rw [ivs_len]; omega) (fun _ => true) (fun o => known.getD o none == some d) nL (fun H2 s2 => .inl (.inl (s2 _ _ ha))) ?_ ?_
    · rintro k o x _ H2 KK K0 hb s2 ⟨rfl, hx⟩ k1 _
      have hxb : x = .int (o : Int) := by
        unfold ivs at hx
        rw [List.getElem?_map, hb] at hx
        exact (Option.some.inj hx).symm
      subst hxb
      refine ⟨rfl, yes_of (iteT ?_)⟩
      refine ⟨_, rfl, _, rfl, l, _, _, _, rfl, rfl, .inl (.inl (s2 _ _ hl)), ov_at (hno o (List.mem_of_getElem? hb)), _, rfl, ov_scal _ _, k1 rfl _ _ (Same.refl _) ?_⟩
      show V.bl (decide (ov (known.getD o none) = ov (some d))) = V.bl _
      rw [Bool.beq_eq_decide_eq]
      exact congrArg V.bl (dec_eq ov_inj)
    · intro H2 acc s2 hacc hr2
      rw [all_keep] at hr2
      rw [AllR.bools hr2] at hacc
      refine ⟨L, _, rfl, .inl (.inl hacc), q_bl ?_ (q H2 s2)⟩
      unfold isNext
      rw [List.any_map]
      rfl
/-! ### distances -/
def RO (_ : Hp) (v : V) (x : Option Nat) : Prop := v = ov x
theorem mono_O : Mono RO := fun _ _ _ _ _ h => h
theorem AllR.ovs {H : Hp} {vs : List V} {xs : List (Option Nat)} (h : AllR RO H vs xs) : vs = xs.map ov := by
  induction h with
  | nil => rfl
  | cons r t ih => rw [ih, show _ = _ from r]; rfl
theorem ov_set (l : List (Option Nat)) (i : Nat) (x : Option Nat) : (l.map ov).set i (ov x) = (l.set i x).map ov := List.map_set.symm
/-- a graph as a tuple of tuples of its own vertices -/
def GrOk (gr : Gr) : Prop := gr.length ≤ 1000 ∧ ∀ near ∈ gr, near.length ≤ 1000 ∧ ∀ o ∈ near, o < gr.length
theorem graphOf_ok {n : Nat} {ps : List (Nat × Nat)} (hn : n ≤ 5) : GrOk (graphOf n ps) := by
  obtain ⟨h1, h2⟩ := graphOf_small (ps := ps) hn
  refine ⟨by omega, fun near hnear => ⟨Nat.le_trans (h2 near hnear) (by decide), fun o ho => ?_⟩⟩
  rw [graphOf_length]
  obtain ⟨v, _, e⟩ := List.mem_map.mp hnear
  rw [← e] at ho
  exact (mem_nbrs.mp ho).1
theorem inner_yes {gr : Gr} {d v : Nat} {known : List (Option Nat)} (h1 : known.getD v none = none) (h2 : isNext gr known v d = true) : innerStep gr d known v = known.set v (some (d + 1)) := by
  unfold innerStep
  rw [if_pos (by rw [h1, h2]; rfl)]
theorem inner_no1 {gr : Gr} {d v : Nat} {known : List (Option Nat)} (h1 : known.getD v none ≠ none) : innerStep gr d known v = known := by
  unfold innerStep
  rw [if_neg (fun z => by
    rw [Bool.and_eq_true] at z
    exact h1 (eq_of_beq z.1))]
theorem inner_no2 {gr : Gr} {d v : Nat} {known : List (Option Nat)} (h2 : isNext gr known v d = false) : innerStep gr d known v = known := by
  unfold innerStep
  rw [if_neg (fun z => by
    rw [Bool.and_eq_true, h2] at z
    exact Bool.noConfusion z.2)]
theorem sc_distances : FnScope ["graph", "start", "found", "distance", "vertex"] ["graph", "start"] (defScope s_distances) := ⟨rfl, rfl, rfl, by decide +kernel, rfl, by decide +kernel, by decide +kernel⟩
def sp_distances : Sp := fun vs H Q _ => ∃ (vg : V) (gr : Gr) (start : Nat), vs = [vg, .int (start : Int)] ∧ IsTs IsT H vg gr ∧ GrOk gr ∧ ∀ p H', Same H H' → H' p = some (.lst ((distancesL gr start).map ov)) → Q (.ref p) H'
theorem ok_distances (D : DefAt K mg "distances" s_distances ["graph", "start"]) (B : Bi mg) (c1 : ConAt mg "FAR" (-1)) (G1 : Has P w K mg base CX0 1 "is_next_to" ["graph", "known", "vertex", "distance"] sp_is_next_to) :
    Has P w K mg base CX0 2 "distances" ["graph", "start"] sp_distances := by
  refine has_of D sc_distances (fun vs H Q E h => ?_) (fun fa cdv A outer s H vs Q E hr h => ?_)
  · obtain ⟨_, _, _, rfl, _⟩ := h
    rfl
  · obtain ⟨_, gr, start, rfl, ⟨g, gs, rfl, hg, rg⟩, ⟨hgz, hok⟩, q⟩ := h
    refine ⟨_, pss_cons (ps_setLc (i := 2) (own := [("vertex", 4)]) (g := gName 4) (tt := tYes) rfl sc_distances.nd rfl rfl rfl (pi_range1 rfl B.range (pa_cons (pe_callB call_len_seq rfl B.len boot_len (pa_cons (pv 0) pa_nil)) pa_nil))
        (blkOk_by (own := [("vertex", 4)]) (N := ["graph", "start", "found", "distance", "vertex"]) (sc := defScope s_distances) (by decide +kernel)) (fun _ _ _ _ _ => pg_name (i := 4) sc_distances.nd rfl (.inl rfl))
        (fun _ _ _ _ _ => pts_nil) (fun _ _ _ _ _ => pe_ifExp (pt_cmpR op_eq (pv 4) (pv 1) (nomark _)) pe_int (pe_con_at c1)))
      (pss_cons (ps_for PassesOwn.never rfl (pi_range1 rfl B.range (pa_cons (pe_callB call_len_seq rfl B.len boot_len (pa_cons (pv 0) pa_nil)) pa_nil)) (pg_name (i := 3) sc_distances.nd rfl (.inl rfl))
        (pss_one (ps_for PassesOwn.never rfl (pi_range1 rfl B.range (pa_cons (pe_callB call_len_seq rfl B.len boot_len (pa_cons (pv 0) pa_nil)) pa_nil)) (pg_name (i := 4) sc_distances.nd rfl (.inl rfl))
          (pss_one (ps_if (PW.pt (pw_and (pt_cmpR op_eq (pe_ix ix_list (pv 2) (pv 4) (fun _ _ => rfl)) (pe_con_at c1) (nomark _)) (pw_and1 (pt_val (pe_f G1 hr (pa_cons (pv 0) (pa_cons (pv 2) (pa_cons (pv 4) (pa_cons (pv 3) pa_nil)))))))))
            (pss_one (ps_asg (pe_op op_add (pv 3) pe_int) (pg_sub (pv 2) (pv 4) set_list))) pss_nil)))))
      (pss_one (ps_ret (pv 2)))), ?_⟩
    have hgl : gs.length = gr.length := Paired.length rg
    refine ⟨_, rfl, g, gs, rfl, .inr (.inl (.inl hg)), (gs.length : Int), rfl, by omega, by omega, fun L nL => ?_⟩
    rw [show ((gs.length : Nat) : Int).toNat = gr.length from hgl]
    refine lc_map walk_range mono_O (List.range gr.length) (List.length_range ..) (by omega) (fun _ => true) (fun v => if v = start then some 0 else none) nL (fun _ _ => trivial) ?_ ?_
    · rintro k b x _ H1 KK K0 hb s1 ⟨rfl, ex⟩ k1 _
      obtain ⟨rfl, hi⟩ := rng_at hb
      obtain rfl : x = .int (b : Int) := fn_at ex
      refine ⟨rfl, yes_of (iteT ?_)⟩
      refine ⟨_, rfl, _, rfl, rfl, _, rfl, ite2 (fun e => ?_) (fun e => ?_)⟩
      · have e : (b : Int) = (start : Int) := V.int.inj (of_decide_eq_true e)
        refine k1 rfl _ _ (Same.refl _) ?_
        show _ = ov (if b = start then some 0 else none)
        rw [if_pos (by omega)]
        rfl
      · have e : ¬ b = start := fun z => e (decide_eq_true (by rw [z]))
        refine k1 rfl _ _ (Same.refl _) ?_
        show _ = ov (if b = start then some 0 else none)
        rw [if_neg e]
        rfl
    · intro H1 acc s1 hacc hr1
      rw [all_keep] at hr1
      rw [AllR.ovs hr1] at hacc
      have hacc : H1 L = some (.lst ((initD gr.length start).map ov)) := hacc
      refine ⟨_, rfl, g, gs, rfl, .inr (.inl (.inl (s1 _ _ hg))), (gs.length : Int), rfl, by omega, by omega, ?_⟩
      rw [show ((gs.length : Nat) : Int).toNat = gr.length from hgl]
      refine for_it walk_range (fun i σ H' => ∃ x3 x4, σ = [some (.ref g), some (.int (start : Int)), some (.ref L), x3, x4] ∧ Same H H' ∧ H' L = some (.lst (((List.range i).foldl (turnD gr) (initD gr.length start)).map ov)))
        ⟨none, none, rfl, s1, hacc⟩ (fun _ _ _ _ _ => trivial) ?_ ?_
      · rintro i x σ _ H2 hi ⟨x3, x4, rfl, s2, hL⟩ ⟨rfl, ex⟩
        obtain rfl : x = .int (i : Int) := fn_at ex
        have htk : (List.range (i + 1)).foldl (turnD gr) (initD gr.length start) = (List.range gr.length).foldl (innerStep gr i) ((List.range i).foldl (turnD gr) (initD gr.length start)) := by
          rw [List.range_succ, List.foldl_append]
          rfl
        have hlen : ((List.range i).foldl (turnD gr) (initD gr.length start)).length = gr.length := by
          rw [turnF_len]
          simp [initD]
        generalize (List.range i).foldl (turnD gr) (initD gr.length start) = K0 at hL htk hlen
        refine ⟨_, rfl, g, gs, rfl, .inr (.inl (.inl (s2 _ _ hg))), (gs.length : Int), rfl, by omega, by omega, ?_⟩
        rw [show ((gs.length : Nat) : Int).toNat = gr.length from hgl]
        refine for_it walk_range (fun j σ H' => ∃ x4, σ = [some (.ref g), some (.int (start : Int)), some (.ref L), some (.int (i : Int)), x4] ∧ Same H H' ∧ H' L = some (.lst (((List.range j).foldl (innerStep gr i) K0).map ov)))
          ⟨x4, rfl, s2, hL⟩ (fun _ _ _ _ _ => trivial) ?_ ?_
        · rintro j y σ _ H3 hj ⟨x4', rfl, s3, hL3⟩ ⟨rfl, ey⟩
          obtain rfl : y = .int (j : Int) := fn_at ey
          have htj : (List.range (j + 1)).foldl (innerStep gr i) K0 = innerStep gr i ((List.range j).foldl (innerStep gr i) K0) j := by
            rw [List.range_succ, List.foldl_append]
            rfl
          have hlj : ((List.range j).foldl (innerStep gr i) K0).length = gr.length := (innerF_len gr i _ _).trans hlen
          generalize (List.range j).foldl (innerStep gr i) K0 = K1 at hL3 htj hlj
          refine ⟨_, rfl, _, rfl, L, _, _, _, rfl, rfl, .inl (.inl hL3), ov_at (by omega), ov_scal _ _, _, rfl, ite2 (fun e => ?_) (fun e => ?_)⟩
          · have h1 : K1.getD j none = none := ov_inj.mp (of_decide_eq_true e)
            refine ⟨_, rfl, _, rfl, _, rfl, _, rfl, .ref g, L, gr, K1, j, i, rfl, ⟨g, gs, rfl, s3 _ _ hg, AllR.mono mono_T (Same.t s3) rg⟩, hL3, hj, fun near hnear => ⟨(hok near hnear).1, fun o ho => by rw [hlj]; exact (hok near hnear).2 o ho⟩, fun H4 s4 => ⟨_, rfl, ite2 (fun e2 => ?_) (fun e2 => ?_)⟩⟩
            · refine ⟨_, rfl, _, _, rfl, rfl, _, rfl, _, rfl, L, _, _, j, rfl, rfl, s4 _ _ hL3, ixN_nat (by rw [List.length_map]; omega), ?_⟩
              refine ⟨_, rfl, Same.upd (s3.trans s4) nL, ?_⟩
              rw [upd_same, htj, inner_yes h1 e2, ← ov_set]
              rfl
            · refine ⟨_, rfl, s3.trans s4, ?_⟩
              rw [htj, inner_no2 (Bool.eq_false_iff.mpr e2)]
              exact s4 _ _ hL3
          · refine iteF ⟨_, rfl, s3, ?_⟩
            rw [htj, inner_no1 (fun z => e (decide_eq_true (by rw [z]; rfl)))]
            exact hL3
        · rintro σ H3 ⟨x4', rfl, s3, hL3⟩
          rw [← htk] at hL3
          exact ⟨_, _, rfl, s3, hL3⟩
      · rintro σ H2 ⟨x3, x4, rfl, s2, hL⟩
        exact ⟨_, rfl, q L _ s2 hL⟩
/-! ### is_connected -/
theorem inV_ov (l : List (Option Nat)) : inV (.int (-1)) (l.map ov) = l.contains none := by
  unfold inV
  rw [List.any_map, Bool.eq_iff_iff, List.any_eq_true, List.contains_iff_mem]
  constructor
  · rintro ⟨x, hx, e⟩
    cases x with
    | none => exact hx
    | some k =>
      have e' : ((k : Int) == (-1 : Int)) = true := e
      have := eq_of_beq e'
      omega
  · intro h
    exact ⟨none, h, rfl⟩
theorem flat_ov (l : List (Option Nat)) : (l.map ov).all flatV = true := by
  rw [List.all_map, List.all_eq_true]
  intro x _
  cases x <;> rfl
theorem sc_is_connected : FnScope ["graph"] ["graph"] (defScope s_is_connected) := ⟨rfl, rfl, rfl, by decide +kernel, rfl, by decide +kernel, by decide +kernel⟩
def sp_is_connected : Sp := fun vs H Q _ => ∃ (vg : V) (gr : Gr), vs = [vg] ∧ IsTs IsT H vg gr ∧ GrOk gr ∧ ∀ H', Same H H' → Q (.bl (connectedL gr)) H'
theorem ok_is_connected (D : DefAt K mg "is_connected" s_is_connected ["graph"]) (c1 : ConAt mg "FAR" (-1)) (G1 : Has P w K mg base CX0 2 "distances" ["graph", "start"] sp_distances) :
    Has P w K mg base CX0 3 "is_connected" ["graph"] sp_is_connected := by
  refine has_of D sc_is_connected (fun vs H Q E h => ?_) (fun fa cdv A outer s H vs Q E hr h => ?_)
  · obtain ⟨_, _, rfl, _⟩ := h
    rfl
  · obtain ⟨vg, gr, rfl, hg, hok, q⟩ := h
    refine ⟨_, pss_one (ps_ret (pe_cmpR op_notIn_seq (pe_con_at c1) (pe_f G1 hr (pa_cons (pv 0) (pa_cons pe_int pa_nil))) rfl)), ?_⟩
    refine ⟨_, rfl, vg, gr, 0, rfl, hg, hok, fun p H1 s1 hp => ?_⟩
    refine ⟨p, _, rfl, .inl (.inl (.inl hp)), rfl, flat_ov _, q_bl ?_ (q H1 s1)⟩
    show (!inV (.int (-1)) _) = _
    rw [inV_ov]
    rfl
/-! ### diameter -/
def oi : Option Nat → Int
  | none => -1
  | some k => (k : Int)
theorem ov_oi (l : List (Option Nat)) : l.map ov = (l.map oi).map V.int := by
  rw [List.map_map]
  refine List.map_congr_left fun x _ => ?_
  cases x <;> rfl
theorem widest_is {l : List (Option Nat)} {m : Int} (h1 : m ∈ l.map oi) (h2 : ∀ y ∈ l.map oi, y ≤ m) {k0 : Nat} (h0 : some k0 ∈ l) : m = ((widest l : Nat) : Int) := by
  have h3 := h2 (k0 : Int) (List.mem_map.mpr ⟨_, h0, rfl⟩)
  obtain ⟨x, hx, e⟩ := List.mem_map.mp h1
  cases x with
  | none =>
    have e : (-1 : Int) = m := e
    omega
  | some k =>
    have e : (k : Int) = m := e
    subst e
    unfold widest
    rw [foldl_max_unique (l := l.map fun d => d.getD 0) (b := 0) (m := k) (Nat.zero_le _) (fun y hy => ?_) (.inr (List.mem_map.mpr ⟨some k, hx, rfl⟩))]
    obtain ⟨z, hz, e⟩ := List.mem_map.mp hy
    cases z with
    | none =>
      have e : 0 = y := e
      omega
    | some j =>
      have e : j = y := e
      have := h2 (j : Int) (List.mem_map.mpr ⟨_, hz, rfl⟩)
      omega
theorem most_is {l : List Nat} {m : Int} (h1 : m ∈ ofNats l) (h2 : ∀ y ∈ ofNats l, y ≤ m) : m = ((l.foldl max 0 : Nat) : Int) := by
  obtain ⟨k, hk, e⟩ := List.mem_map.mp h1
  subst e
  rw [foldl_max_unique (l := l) (b := 0) (m := k) (Nat.zero_le _) (fun y hy => ?_) (.inr hk)]
  · rfl
  · exact Int.ofNat_le.mp (h2 (Int.ofNat y) (List.mem_map.mpr ⟨y, hy, rfl⟩))
theorem self_far {n : Nat} {ps : List (Nat × Nat)} {u : Nat} (hu : u < n) : some 0 ∈ distancesL (graphOf n ps) u := by
  rw [distances_is hu]
  refine List.mem_map.mpr ⟨u, List.mem_range.mpr hu, ?_⟩
  exact (distance_is hu).mpr (At.zero.mpr rfl)
theorem sc_diameter : FnScope ["graph", "start"] ["graph"] (defScope s_diameter) := ⟨rfl, rfl, rfl, by decide +kernel, rfl, by decide +kernel, by decide +kernel⟩
def sp_diameter : Sp := fun vs H Q _ => ∃ (vg : V) (n : Nat) (ps : List (Nat × Nat)), vs = [vg] ∧ IsTs IsT H vg (graphOf n ps) ∧ 1 ≤ n ∧ n ≤ 5 ∧ ∀ H', Same H H' → Q (.int (diameterL (graphOf n ps) : Nat)) H'
theorem ok_diameter (D : DefAt K mg "diameter" s_diameter ["graph"]) (B : Bi mg) (G1 : Has P w K mg base CX0 2 "distances" ["graph", "start"] sp_distances) :
    Has P w K mg base CX0 3 "diameter" ["graph"] sp_diameter := by
  refine has_of D sc_diameter (fun vs H Q E h => ?_) (fun fa cdv A outer s H vs Q E hr h => ?_)
  · obtain ⟨_, _, _, rfl, _⟩ := h
    rfl
  · obtain ⟨_, n, ps, rfl, ⟨g, gs, rfl, hg, rg⟩, hn1, hn5, q⟩ := h
    refine ⟨_, pss_one (ps_ret (pe_callB (cr_max rfl) rfl B.max boot_max (pa_cons (pe_lc (own := [("start", 1)]) (g := gName 1) (tt := tYes) rfl sc_diameter.nd (pi_range1 rfl B.range (pa_cons (pe_callB call_len_seq rfl B.len boot_len (pa_cons (pv 0) pa_nil)) pa_nil))
      (blkOk_by (own := [("start", 1)]) (N := ["graph", "start"]) (sc := defScope s_diameter) (by decide +kernel)) (fun _ _ _ _ _ => pg_name (i := 1) sc_diameter.nd rfl (.inl rfl)) (fun _ _ _ _ _ => pts_nil)
      (fun _ _ _ _ _ => pe_callB (r := rMax K) (cr_max rfl) rfl B.max boot_max (pa_cons (pe_f G1 hr (pa_cons (pv 0) (pa_cons (pv 1) pa_nil))) pa_nil))) pa_nil))), ?_⟩
    have hgl : gs.length = n := (Paired.length rg).trans (graphOf_length ..)
    refine ⟨_, rfl, g, gs, rfl, .inr (.inl (.inl hg)), (gs.length : Int), rfl, by omega, by omega, fun L nL => ?_⟩
    rw [show ((gs.length : Nat) : Int).toNat = n from hgl]
    refine lc_map walk_range mono_N (List.range n) (List.length_range ..) (by omega) (fun _ => true) (fun u => widest (distancesL (graphOf n ps) u)) nL (fun _ _ => trivial) ?_ ?_
    · rintro k b x _ H1 KK K0 hb s1 ⟨rfl, ex⟩ k1 _
      obtain ⟨rfl, hi⟩ := rng_at hb
      obtain rfl : x = .int (b : Int) := fn_at ex
      refine ⟨rfl, yes_of (iteT ?_)⟩
      refine ⟨_, rfl, _, rfl, .ref g, _, b, rfl, ⟨g, gs, rfl, s1 _ _ hg, AllR.mono mono_T (Same.t s1) rg⟩, graphOf_ok hn5, fun p H2 s2 hp => ?_⟩
      rw [ov_oi] at hp
      refine ⟨p, _, rfl, .inl (.inl hp), (by rw [List.length_map, distances_len, graphOf_length]; omega), fun m hm1 hm2 => k1 rfl _ _ s2 ?_⟩
      rw [widest_is hm1 hm2 (self_far hi)]
      rfl
    · intro H1 acc s1 hacc hr1
      rw [all_keep] at hr1
      rw [AllR.nats hr1, ivs_ints] at hacc
      refine ⟨L, _, rfl, .inl (.inl hacc), (by unfold ofNats; rw [List.length_map, List.length_map, List.length_range]; omega), fun m hm1 hm2 => q_int ?_ (q H1 s1)⟩
      rw [most_is hm1 hm2]
      unfold diameterL
      rw [graphOf_length]
/-! ### want_target -/
theorem sc_want_target : FnScope ["graph", "target"] ["graph", "target"] (defScope s_want_target) := ⟨rfl, rfl, rfl, by decide +kernel, rfl, by decide +kernel, by decide +kernel⟩
def sp_want_target (C : Addr) : Sp := fun vs H Q E => ∃ (vg : V) (gr : Gr) (t : Nat), vs = [vg, .int (t : Int)] ∧ IsTs IsT H vg gr ∧ (t < gr.length → Q .non H) ∧ (¬ t < gr.length → Ref E C H (-2))
theorem ok_want_target (D : DefAt K mg "want_target" s_want_target ["graph", "target"]) (B : Bi mg) (c2 : ConAt mg "NO_TARGET" (-2)) (GW : Has P w K mg base (L2.CX P w) 3 "want" ["truth", "code"] (sp_want C)) :
    Has P w K mg base (L2.CX P w) 4 "want_target" ["graph", "target"] (sp_want_target C) := by
  refine has_ofX D sc_want_target (fun vs H Q E h => ?_) (fun fa cdv A outer s H vs Q E hr h => ?_)
  · obtain ⟨_, _, _, rfl, _⟩ := h
    rfl
  · obtain ⟨_, gr, t, rfl, ⟨g, gs, rfl, hg, rg⟩, q1, q2⟩ := h
    refine ⟨_, pss_one (ps_expr (pe_fX (E := E) GW hr (takes_of rfl rfl rfl rfl) (pa_cons (pe_cmpR op_lt (pv 1) (pe_callB call_len_seq rfl B.len boot_len (pa_cons (pv 0) pa_nil)) (nomark _)) (pa_cons (pe_con_at c2) pa_nil)))), ?_⟩
    have hgl : gs.length = gr.length := Paired.length rg
    refine ⟨_, rfl, _, rfl, g, _, rfl, .inr (.inl (.inl hg)), _, _, rfl, rfl, _, -2, rfl, fun hb => q1 ?_, fun hb => q2 ?_⟩
    · have hb : (t : Int) < (gs.length : Int) := of_decide_eq_true hb
      omega
    · have hb : decide ((t : Int) < (gs.length : Int)) = false := hb
      have hb := of_decide_eq_false hb
      omega
/-! ### read_narrow -/
theorem sc_read_narrow : FnScope ["vertex_count", "target", "edges", "graph"] ["vertex_count", "target", "edges"] (defScope s_read_narrow) := ⟨rfl, rfl, rfl, by decide +kernel, rfl, by decide +kernel, by decide +kernel⟩
def sp_read_narrow (K : PySem.W.Frag) (C : Addr) : Sp := fun vs H Q E => ∃ (n t : Nat) (a : Addr) (es : List Nat), vs = [.int (n : Int), .int (t : Int), .ref a] ∧ SqL K H a (ivs es) ∧ es.length ≤ 1000 ∧
  (narrow n t es = none → ∀ v H', Same H H' → IsTs IsT H' v (graphOf n (edgesOf es)) → Q v H') ∧ ∀ z, narrow n t es = some z → Ref E C H z
theorem narrow_none {n t : Nat} {es : List Nat} (h : narrow n t es = none) : 1 ≤ n ∧ n ≤ 5 ∧ diameterL (graphOf n (edgesOf es)) ≤ 3 ∧ t < n := by
  unfold narrow at h
  by_cases h1 : graphOk n es = true
  · rw [if_pos h1] at h
    obtain ⟨a, b⟩ := graphOk_le h1
    refine ⟨a, b, ?_⟩
    by_cases h2 : connectedL (graphOf n (edgesOf es)) = true
    · rw [if_pos h2] at h
      by_cases h3 : diameterL (graphOf n (edgesOf es)) ≤ 3
      · rw [if_pos h3] at h
        refine ⟨h3, ?_⟩
        by_cases h4 : t < n
        · exact h4
        · rw [if_neg h4] at h
          cases h
      · rw [if_neg h3] at h
        cases h
    · rw [if_neg h2] at h
      cases h
  · rw [if_neg h1] at h
    cases h
theorem ok_read_narrow (D : DefAt K mg "read_narrow" s_read_narrow ["vertex_count", "target", "edges"]) (c1 : ConAt mg "NOT_THERE" (-33)) (c2 : ConAt mg "TOO_WIDE" (-75)) (c3 : ConAt mg "MOST_DIAMETER" 3) (GW : Has P w K mg base (L2.CX P w) 3 "want" ["truth", "code"] (sp_want C))
    (G1 : Has P w K mg base (L2.CX P w) 4 "read_graph" ["vertex_count", "edges"] (sp_read_graph K C)) (G2 : Has P w K mg base CX0 3 "is_connected" ["graph"] sp_is_connected) (G3 : Has P w K mg base CX0 3 "diameter" ["graph"] sp_diameter)
    (G4 : Has P w K mg base (L2.CX P w) 4 "want_target" ["graph", "target"] (sp_want_target C)) : Has P w K mg base (L2.CX P w) 5 "read_narrow" ["vertex_count", "target", "edges"] (sp_read_narrow K C) := by
  refine has_ofX D sc_read_narrow (fun vs H Q E h => ?_) (fun fa cdv A outer s H vs Q E hr h => ?_)
  · obtain ⟨_, _, _, _, rfl, _⟩ := h
    rfl
  · obtain ⟨n, t, a, es, rfl, ha, hz, q1, q2⟩ := h
    refine ⟨_, pss_cons (ps_set (i := 3) sc_read_narrow.nd rfl (.inl rfl) (pe_fX (E := E) G1 hr (takes_of rfl rfl rfl rfl) (pa_cons (pv 0) (pa_cons (pv 2) pa_nil))))
      (pss_cons (ps_expr (pe_fX (E := E) GW (hr.mono (by decide)) (takes_of rfl rfl rfl rfl) (pa_cons (pe_f G2 (hr.mono (by decide)) (pa_cons (pv 3) pa_nil)) (pa_cons (pe_con_at c1) pa_nil))))
      (pss_cons (ps_expr (pe_fX (E := E) GW (hr.mono (by decide)) (takes_of rfl rfl rfl rfl) (pa_cons (pe_cmpR op_le (pe_f G3 (hr.mono (by decide)) (pa_cons (pv 3) pa_nil)) (pe_con_at c3) (nomark _)) (pa_cons (pe_con_at c2) pa_nil))))
      (pss_cons (ps_expr (pe_fX (E := E) G4 hr (takes_of rfl rfl rfl rfl) (pa_cons (pv 3) (pa_cons (pv 1) pa_nil))))
      (pss_one (ps_ret (pv 3)))))), ?_⟩
    refine ⟨_, rfl, _, rfl, n, a, es, rfl, ha, hz, fun hg v H1 s1 hv => ?_, fun hg => q2 _ (by unfold narrow; rw [if_neg (by rw [hg]; exact Bool.false_ne_true)])⟩
    obtain ⟨hn1, hn5⟩ := graphOk_le hg
    have hgl : (graphOf n (edgesOf es)).length = n := graphOf_length ..
    refine ⟨_, rfl, v, _, rfl, hv, graphOf_ok hn5, fun H2 s2 => ⟨connectedL (graphOf n (edgesOf es)), -33, rfl, fun hc => ?_, fun hc => (q2 _ ?_).of (s1.trans s2)⟩⟩
    · have hv2 := mono_Ts mono_T _ _ _ _ (Same.t s2) hv
      refine ⟨_, rfl, v, n, edgesOf es, rfl, hv2, hn1, hn5, fun H3 s3 => ⟨_, _, rfl, rfl, _, -75, rfl, fun hd => ?_, fun hd => (q2 _ ?_).of ((s1.trans s2).trans s3)⟩⟩
      · have hd : ((diameterL (graphOf n (edgesOf es)) : Nat) : Int) ≤ 3 := of_decide_eq_true hd
        have hd : diameterL (graphOf n (edgesOf es)) ≤ 3 := by omega
        have hv3 := mono_Ts mono_T _ _ _ _ (Same.t s3) hv2
        refine ⟨_, rfl, _, rfl, v, _, t, rfl, hv3, fun ht => ?_, fun ht => (q2 _ ?_).of ((s1.trans s2).trans s3)⟩
        · rw [hgl] at ht
          refine ⟨_, rfl, q1 ?_ v _ ((s1.trans s2).trans s3) hv3⟩
          unfold narrow
          rw [if_pos hg, if_pos hc, if_pos hd, if_pos ht]
        · rw [hgl] at ht
          unfold narrow
          rw [if_pos hg, if_pos hc, if_pos hd, if_neg ht]
      · have hd : decide (((diameterL (graphOf n (edgesOf es)) : Nat) : Int) ≤ 3) = false := hd
        have hd := of_decide_eq_false hd
        unfold narrow
        rw [if_pos hg, if_pos hc, if_neg (by omega)]
    · unfold narrow
      rw [if_pos hg, if_neg (by rw [hc]; exact Bool.false_ne_true)]
/-! ### number_by -/
theorem enough_le {n d : Nat} (hn : n ≤ 5) (hd : d ≤ 3) : enoughN n d ≤ 30 := by
  unfold enoughN
  have h1 : (2 : Nat) ^ d ≤ 2 ^ 3 := Nat.pow_le_pow_right (by decide) hd
  have h2 : (n - 1) * (2 ^ d - 1) ≤ 4 * 7 := Nat.mul_le_mul (by omega) (by omega)
  omega
theorem sc_number_by : FnScope ["graph", "target", "moves"] ["graph", "target", "moves"] (defScope s_number_by) := ⟨rfl, rfl, rfl, by decide +kernel, rfl, by decide +kernel, by decide +kernel⟩
def sp_number_by : Sp := fun vs H Q _ => ∃ (vg vm : V) (n t : Nat) (ps : List (Nat × Nat)) (ms : List Mv), vs = [vg, .int (t : Int), vm] ∧ IsTs IsT H vg (graphOf n ps) ∧ 1 ≤ n ∧ n ≤ 5 ∧ diameterL (graphOf n ps) ≤ 3 ∧ t < n ∧ IsLs IsM H vm ms ∧ ms.length ≤ 1000 ∧ MovesIn n ms ∧
  ∀ H', Same H H' → Q (.int (leastNumber n t ms (enoughN n (diameterL (graphOf n ps))) : Nat)) H'
theorem ok_number_by (D : DefAt K mg "number_by" s_number_by ["graph", "target", "moves"]) (B : Bi mg) (G1 : Has P w K mg base CX0 5 "least_number" ["vertex_count", "target", "moves", "most"] sp_least_number)
    (G2 : Has P w K mg base CX0 1 "enough_pebbles" ["vertex_count", "diameter"] sp_enough_pebbles) (G3 : Has P w K mg base CX0 3 "diameter" ["graph"] sp_diameter) : Has P w K mg base CX0 6 "number_by" ["graph", "target", "moves"] sp_number_by := by
  refine has_of D sc_number_by (fun vs H Q E h => ?_) (fun fa cdv A outer s H vs Q E hr h => ?_)
  · obtain ⟨_, _, _, _, _, _, rfl, _⟩ := h
    rfl
  · obtain ⟨_, vm, n, t, ps, ms, rfl, ⟨g, gs, rfl, hg, rg⟩, hn1, hn5, hd, ht, hm, hz, hin, q⟩ := h
    refine ⟨_, pss_one (ps_ret (pe_f G1 hr (pa_cons (pe_callB call_len_seq rfl B.len boot_len (pa_cons (pv 0) pa_nil)) (pa_cons (pv 1) (pa_cons (pv 2) (pa_cons (pe_f G2 (hr.mono (by decide)) (pa_cons (pe_callB call_len_seq rfl B.len boot_len (pa_cons (pv 0) pa_nil)) (pa_cons (pe_f G3 (hr.mono (by decide)) (pa_cons (pv 0) pa_nil)) pa_nil))) pa_nil)))))), ?_⟩
    have hgl : gs.length = n := (Paired.length rg).trans (graphOf_length ..)
    refine ⟨_, rfl, g, gs, rfl, .inr (.inl (.inl hg)), _, rfl, _, rfl, _, rfl, g, gs, rfl, .inr (.inl (.inl hg)), _, rfl, .ref g, n, ps, rfl, ⟨g, gs, rfl, hg, rg⟩, hn1, hn5, fun H1 s1 => ?_⟩
    refine ⟨n, _, (by rw [hgl]; rfl), hn1, hn5, hd, ?_⟩
    exact ⟨vm, n, t, _, ms, (by rw [hgl]; rfl), hn1, hn5, ht, (by unfold enoughN; omega), enough_le hn5 hd, IsLs.same mono_M s1 hm, hz, hin, fun H2 s2 => q H2 (s1.trans s2)⟩
/-! ### rubbling_of -/
theorem sc_rubbling_of : FnScope ["vertex_count", "target", "edges", "graph"] ["vertex_count", "target", "edges"] (defScope s_rubbling_of) := ⟨rfl, rfl, rfl, by decide +kernel, rfl, by decide +kernel, by decide +kernel⟩
def sp_rubbling_of (K : PySem.W.Frag) (C : Addr) : Sp := fun vs H Q E => ∃ (n t : Nat) (a : Addr) (es : List Nat), vs = [.int (n : Int), .int (t : Int), .ref a] ∧ SqL K H a (ivs es) ∧ es.length ≤ 1000 ∧ Outs Q E C H (rubblingL n t es)
theorem rubL_yes {n t : Nat} {es : List Nat} (h : narrow n t es = none) : rubblingL n t es = [(rubN n t es : Int)] := by
  unfold rubblingL
  rw [h]
theorem rubL_no {n t : Nat} {es : List Nat} {z : Int} (h : narrow n t es = some z) : rubblingL n t es = [z] := by
  unfold rubblingL
  rw [h]
theorem ok_rubbling_of (D : DefAt K mg "rubbling_of" s_rubbling_of ["vertex_count", "target", "edges"]) (G1 : Has P w K mg base (L2.CX P w) 5 "read_narrow" ["vertex_count", "target", "edges"] (sp_read_narrow K C))
    (G2 : Has P w K mg base CX0 6 "number_by" ["graph", "target", "moves"] sp_number_by) (G3 : Has P w K mg base CX0 1 "rubbling_moves" ["graph"] sp_rubbling_moves) :
    Has P w K mg base (L2.CX P w) 7 "rubbling_of" ["vertex_count", "target", "edges"] (sp_rubbling_of K C) := by
  refine has_ofX D sc_rubbling_of (fun vs H Q E h => ?_) (fun fa cdv A outer s H vs Q E hr h => ?_)
  · obtain ⟨_, _, _, _, rfl, _⟩ := h
    rfl
  · obtain ⟨n, t, a, es, rfl, ha, hz, q⟩ := h
    refine ⟨_, pss_cons (ps_set (i := 3) sc_rubbling_of.nd rfl (.inl rfl) (pe_fX (E := E) G1 (hr.mono (by decide)) (takes_of rfl rfl rfl rfl) (pa_cons (pv 0) (pa_cons (pv 1) (pa_cons (pv 2) pa_nil)))))
      (pss_one (ps_ret (pe_lst (pa_cons (pe_f G2 hr (pa_cons (pv 3) (pa_cons (pv 1) (pa_cons (pe_f G3 (hr.mono (by decide)) (pa_cons (pv 3) pa_nil)) pa_nil)))) pa_nil)))), ?_⟩
    refine ⟨_, rfl, _, rfl, _, rfl, n, t, a, es, rfl, ha, hz, fun hn v H1 s1 hv => ?_, fun z hzz => q.2 _ (rubL_no hzz)⟩
    obtain ⟨hn1, hn5, hd, ht⟩ := narrow_none hn
    refine ⟨_, rfl, _, rfl, _, rfl, v, _, rfl, hv, graphOf_small hn5, fun y H2 s2 hy => ?_⟩
    refine ⟨v, y, n, t, _, _, rfl, mono_Ts mono_T _ _ _ _ (Same.t s2) hv, hn1, hn5, hd, ht, hy, Nat.le_trans (rubMoves_len (graphOf_small hn5)) (by decide), rubMoves_in n _, fun H3 s3 => ⟨(by show 1 ≤ sizeLine; decide), fun p np => ?_⟩⟩
    refine q.1 p _ (Same.upd ((s1.trans s2).trans s3) (none_of ((s1.trans s2).trans s3) np)) ?_
    rw [upd_same, rubL_yes hn]
    rfl
/-! ### rubbling_number -/
theorem sc_rubbling_number : FnScope ["vertex_count", "target", "edges", "e"] ["vertex_count", "target", "edges"] (defScope s_rubbling_number) := ⟨rfl, rfl, rfl, by decide +kernel, rfl, by decide +kernel, by decide +kernel⟩
def sp_rubbling_number (K : PySem.W.Frag) : Sp := fun vs H Q _ => ∃ (n t : Nat) (a : Addr) (es : List Nat), vs = [.int (n : Int), .int (t : Int), .ref a] ∧ SqL K H a (ivs es) ∧ es.length ≤ 1000 ∧
  ∀ (p : Addr) (H' : Hp), H' p = some (.lst ((rubblingL n t es).map V.int)) → Q (.ref p) H'
theorem ok_rubbling_number {fa : Addr} {fd : FuncData} (F : Fun K "rubbling_number" "rubbling_number" s_rubbling_number fa fd) (T : RefTxt K mg C) (G : Has P w K mg base (L2.CX P w) 7 "rubbling_of" ["vertex_count", "target", "edges"] (sp_rubbling_of K C)) :
    FnOk P w K mg base CX0 8 fa fd ["vertex_count", "target", "edges"] (sp_rubbling_number K) := by
  refine F.ok sc_rubbling_number (fun vs H Q E h => ?_) (fun cdv A outer s H vs Q E hr h => ?_)
  · obtain ⟨_, _, _, _, rfl, _⟩ := h
    rfl
  · obtain ⟨n, t, a, es, rfl, ha, hz, q⟩ := h
    refine ⟨_, pss_one (ps_try_as (i := 3) (tb := fun W => tRet (tCallS (sp_rubbling_of K C) (WE W) (tCons (tVar 0) (tCons (tVar 1) (tCons (tVar 2) tNil)))))
      (ts := fun a cls d => tRet (tLst (tCons (tXf a cls d C "code" (tVar 3)) tNil))) (Wout := fun _ _ _ _ => False) rfl rfl sc_rubbling_number.nd rfl rfl ⟨rfl, by decide, Or.inl T.gC⟩ takes0
      (fun W pn xe tk _ => pss_one (ps_ret (pe_fS G hr tk (pa_cons (pv 0) (pa_cons (pv 1) (pa_cons (pv 2) pa_nil))))))
      (fun a oe cls d pn hz hf => pss_one (ps_ret (pe_lst (pa_cons (pe_xf T.xf T.nc hz hf (pv 3)) pa_nil))))), ?_⟩
    refine ⟨_, rfl, _, rfl, _, rfl, n, t, a, es, rfl, ha, hz, fun p H' _ e => q p H' e, fun z ez d H' _ e => ?_⟩
    refine ⟨true, T.te, fun _ a0 _ => ?_, fun w => Bool.noConfusion w⟩
    refine ⟨_, rfl, rfl, rfl, d, _, _, rfl, e, code_at z, (by show 1 ≤ sizeLine; decide), fun p np => q p _ ?_⟩
    rw [upd_same, ez]
    rfl
end
end RW
namespace RW
open PySem PySem.Spec PyProof.Rows L2 Rub
section
theorem all_mk {P : Program} {w : World} {K : PySem.W.Frag} {h : Heap} {mg : Str → Option Value} {fa C fI : Addr}
    {nm q : Str} {N : Addr} {bs : List Value} {sn : List Str} {sub : List Value} {ab : Bool} {col : Option Bool} {dd : Option Addr} {m0 m1 m2 m3 m5 : Option Value}
    {odI anI : Option Addr} {slI : Array (Option Value)} {ocI kVI dcI pmI cdI ctI : Value}
    {f0 : Addr} {od0 an0 : Option Addr} {sl0 : Array (Option Value)} {oc0 kV0 dc0 pm0 cd0 ct0 : Value}
    {f1 : Addr} {od1 an1 : Option Addr} {sl1 : Array (Option Value)} {oc1 kV1 dc1 pm1 cd1 ct1 : Value}
    {f2 : Addr} {od2 an2 : Option Addr} {sl2 : Array (Option Value)} {oc2 kV2 dc2 pm2 cd2 ct2 : Value}
    {f3 : Addr} {od3 an3 : Option Addr} {sl3 : Array (Option Value)} {oc3 kV3 dc3 pm3 cd3 ct3 : Value}
    {f4 : Addr} {od4 an4 : Option Addr} {sl4 : Array (Option Value)} {oc4 kV4 dc4 pm4 cd4 ct4 : Value}
    {f5 : Addr} {od5 an5 : Option Addr} {sl5 : Array (Option Value)} {oc5 kV5 dc5 pm5 cd5 ct5 : Value}
    {f6 : Addr} {od6 an6 : Option Addr} {sl6 : Array (Option Value)} {oc6 kV6 dc6 pm6 cd6 ct6 : Value}
    {f7 : Addr} {od7 an7 : Option Addr} {sl7 : Array (Option Value)} {oc7 kV7 dc7 pm7 cd7 ct7 : Value}
    {f8 : Addr} {od8 an8 : Option Addr} {sl8 : Array (Option Value)} {oc8 kV8 dc8 pm8 cd8 ct8 : Value}
    {f9 : Addr} {od9 an9 : Option Addr} {sl9 : Array (Option Value)} {oc9 kV9 dc9 pm9 cd9 ct9 : Value}
    {f10 : Addr} {od10 an10 : Option Addr} {sl10 : Array (Option Value)} {oc10 kV10 dc10 pm10 cd10 ct10 : Value}
    {f11 : Addr} {od11 an11 : Option Addr} {sl11 : Array (Option Value)} {oc11 kV11 dc11 pm11 cd11 ct11 : Value}
    {f12 : Addr} {od12 an12 : Option Addr} {sl12 : Array (Option Value)} {oc12 kV12 dc12 pm12 cd12 ct12 : Value}
    {f13 : Addr} {od13 an13 : Option Addr} {sl13 : Array (Option Value)} {oc13 kV13 dc13 pm13 cd13 ct13 : Value}
    {f14 : Addr} {od14 an14 : Option Addr} {sl14 : Array (Option Value)} {oc14 kV14 dc14 pm14 cd14 ct14 : Value}
    {f15 : Addr} {od15 an15 : Option Addr} {sl15 : Array (Option Value)} {oc15 kV15 dc15 pm15 cd15 ct15 : Value}
    {f16 : Addr} {od16 an16 : Option Addr} {sl16 : Array (Option Value)} {oc16 kV16 dc16 pm16 cd16 ct16 : Value}
    {f17 : Addr} {od17 an17 : Option Addr} {sl17 : Array (Option Value)} {oc17 kV17 dc17 pm17 cd17 ct17 : Value}
    {f18 : Addr} {od18 an18 : Option Addr} {sl18 : Array (Option Value)} {oc18 kV18 dc18 pm18 cd18 ct18 : Value}
    {f19 : Addr} {od19 an19 : Option Addr} {sl19 : Array (Option Value)} {oc19 kV19 dc19 pm19 cd19 ct19 : Value}
    {f20 : Addr} {od20 an20 : Option Addr} {sl20 : Array (Option Value)} {oc20 kV20 dc20 pm20 cd20 ct20 : Value}
    {f21 : Addr} {od21 an21 : Option Addr} {sl21 : Array (Option Value)} {oc21 kV21 dc21 pm21 cd21 ct21 : Value}
    {f22 : Addr} {od22 an22 : Option Addr} {sl22 : Array (Option Value)} {oc22 kV22 dc22 pm22 cd22 ct22 : Value}
    {f23 : Addr} {od23 an23 : Option Addr} {sl23 : Array (Option Value)} {oc23 kV23 dc23 pm23 cd23 ct23 : Value}
    {f24 : Addr} {od24 an24 : Option Addr} {sl24 : Array (Option Value)} {oc24 kV24 dc24 pm24 cd24 ct24 : Value}
    {f25 : Addr} {od25 an25 : Option Addr} {sl25 : Array (Option Value)} {oc25 kV25 dc25 pm25 cd25 ct25 : Value}
    {t0 : Tok}
    {t1 : Tok}
    {t2 : Tok}
    {t3 : Tok}
    {t4 : Tok}
    {t5 : Tok}
    {t6 : Tok}
    (X : K.In h) (G : h.Ns mainGlobals mg) (hfa : mg "rubbling_number" = some (.ref fa))
    (aC : PySem.W.nsIn K mainGlobals "Refused" = some (some (.ref C)))
    (xL : K.lookup C = some (excClassObj nm q C N bs [.type "ValueError", .type "Exception", .type "BaseException", .type "object"] true sn sub ab col dd m0 m1 m2 m3 m5 "ValueError.__new__"))
    (xsa : PySem.W.findIn K (.ref C) "__setattr__" = some (some (.builtin "object.__setattr__")))
    (xga : PySem.W.findIn K (.ref C) "__getattribute__" = some (some (.builtin "BaseException.__getattribute__")))
    (xgg : PySem.W.findIn K (.ref C) "__getattr__" = some none)
    (xnc : PySem.W.findIn K (.ref C) "code" = some none)
    (xI : PySem.W.findIn K (.ref C) "__init__" = some (some (.ref fI)))
    (xtI : PySem.W.typeIn K (.ref fI) = some (.type "function"))
    (xlI : K.lookup fI = some ⟨ocI, odI, .func (PySem.W.fnOf "__init__" "Refused.__init__" (defArgs s_init) (defBody s_init) (defScope s_init) .none kVI dcI pmI anI cdI ctI), slI⟩)
    (xcI : PySem.W.codeIn K cdI "Refused.__init__" = true)
    (xkI : PySem.W.keepIn K (.ref fI) = true)
    (xkC : PySem.W.keepIn K (.ref C) = true)
    (xeC : PySem.W.subIn K (.ref C) (.type "BaseException") = some true)
    (xtC : PySem.W.typeIn K (.ref C) = some (.type "type"))
    (xhC : PySem.W.hasDictIn K C = true)
    (xiC : PySem.W.isClsIn K C = true)
    (xsC : PySem.W.subIn K (.ref C) (.ref C) = some true)
    (xmV : PySem.W.nsIn K mainGlobals "ValueError" = some none)
    (xvV : PySem.W.findCls K (.type "ValueError") (.type "type") "__init__" = some (.val (.builtin "ValueError.__init__")))
    (a0 : PySem.W.nsIn K mainGlobals "rubbling_moves" = some (some (.ref f0)))
    (l0 : K.lookup f0 = some ⟨oc0, od0, .func (PySem.W.fnOf "rubbling_moves" "rubbling_moves" (defArgs s_rubbling_moves) (defBody s_rubbling_moves) (defScope s_rubbling_moves) .none kV0 dc0 pm0 an0 cd0 ct0), sl0⟩)
    (c0 : PySem.W.codeIn K cd0 "rubbling_moves" = true)
    (k0 : PySem.W.keepIn K (.ref f0) = true)
    (a1 : PySem.W.nsIn K mainGlobals "has_pebbles" = some (some (.ref f1)))
    (l1 : K.lookup f1 = some ⟨oc1, od1, .func (PySem.W.fnOf "has_pebbles" "has_pebbles" (defArgs s_has_pebbles) (defBody s_has_pebbles) (defScope s_has_pebbles) .none kV1 dc1 pm1 an1 cd1 ct1), sl1⟩)
    (c1 : PySem.W.codeIn K cd1 "has_pebbles" = true)
    (k1 : PySem.W.keepIn K (.ref f1) = true)
    (a2 : PySem.W.nsIn K mainGlobals "moved" = some (some (.ref f2)))
    (l2 : K.lookup f2 = some ⟨oc2, od2, .func (PySem.W.fnOf "moved" "moved" (defArgs s_moved) (defBody s_moved) (defScope s_moved) .none kV2 dc2 pm2 an2 cd2 ct2), sl2⟩)
    (c2 : PySem.W.codeIn K cd2 "moved" = true)
    (k2 : PySem.W.keepIn K (.ref f2) = true)
    (a3 : PySem.W.nsIn K mainGlobals "all_behind" = some (some (.ref f3)))
    (l3 : K.lookup f3 = some ⟨oc3, od3, .func (PySem.W.fnOf "all_behind" "all_behind" (defArgs s_all_behind) (defBody s_all_behind) (defScope s_all_behind) .none kV3 dc3 pm3 an3 cd3 ct3), sl3⟩)
    (c3 : PySem.W.codeIn K cd3 "all_behind" = true)
    (k3 : PySem.W.keepIn K (.ref f3) = true)
    (a4 : PySem.W.nsIn K mainGlobals "longer_rows" = some (some (.ref f4)))
    (l4 : K.lookup f4 = some ⟨oc4, od4, .func (PySem.W.fnOf "longer_rows" "longer_rows" (defArgs s_longer_rows) (defBody s_longer_rows) (defScope s_longer_rows) .none kV4 dc4 pm4 an4 cd4 ct4), sl4⟩)
    (c4 : PySem.W.codeIn K cd4 "longer_rows" = true)
    (k4 : PySem.W.keepIn K (.ref f4) = true)
    (a5 : PySem.W.nsIn K mainGlobals "configurations" = some (some (.ref f5)))
    (l5 : K.lookup f5 = some ⟨oc5, od5, .func (PySem.W.fnOf "configurations" "configurations" (defArgs s_configurations) (defBody s_configurations) (defScope s_configurations) .none kV5 dc5 pm5 an5 cd5 ct5), sl5⟩)
    (c5 : PySem.W.codeIn K cd5 "configurations" = true)
    (k5 : PySem.W.keepIn K (.ref f5) = true)
    (a6 : PySem.W.nsIn K mainGlobals "can_reach" = some (some (.ref f6)))
    (l6 : K.lookup f6 = some ⟨oc6, od6, .func (PySem.W.fnOf "can_reach" "can_reach" (defArgs s_can_reach) (defBody s_can_reach) (defScope s_can_reach) .none kV6 dc6 pm6 an6 cd6 ct6), sl6⟩)
    (c6 : PySem.W.codeIn K cd6 "can_reach" = true)
    (k6 : PySem.W.keepIn K (.ref f6) = true)
    (a7 : PySem.W.nsIn K mainGlobals "reaching" = some (some (.ref f7)))
    (l7 : K.lookup f7 = some ⟨oc7, od7, .func (PySem.W.fnOf "reaching" "reaching" (defArgs s_reaching) (defBody s_reaching) (defScope s_reaching) .none kV7 dc7 pm7 an7 cd7 ct7), sl7⟩)
    (c7 : PySem.W.codeIn K cd7 "reaching" = true)
    (k7 : PySem.W.keepIn K (.ref f7) = true)
    (a8 : PySem.W.nsIn K mainGlobals "enough_pebbles" = some (some (.ref f8)))
    (l8 : K.lookup f8 = some ⟨oc8, od8, .func (PySem.W.fnOf "enough_pebbles" "enough_pebbles" (defArgs s_enough_pebbles) (defBody s_enough_pebbles) (defScope s_enough_pebbles) .none kV8 dc8 pm8 an8 cd8 ct8), sl8⟩)
    (c8 : PySem.W.codeIn K cd8 "enough_pebbles" = true)
    (k8 : PySem.W.keepIn K (.ref f8) = true)
    (a9 : PySem.W.nsIn K mainGlobals "least_number" = some (some (.ref f9)))
    (l9 : K.lookup f9 = some ⟨oc9, od9, .func (PySem.W.fnOf "least_number" "least_number" (defArgs s_least_number) (defBody s_least_number) (defScope s_least_number) .none kV9 dc9 pm9 an9 cd9 ct9), sl9⟩)
    (c9 : PySem.W.codeIn K cd9 "least_number" = true)
    (k9 : PySem.W.keepIn K (.ref f9) = true)
    (a10 : PySem.W.nsIn K mainGlobals "want" = some (some (.ref f10)))
    (l10 : K.lookup f10 = some ⟨oc10, od10, .func (PySem.W.fnOf "want" "want" (defArgs s_want) (defBody s_want) (defScope s_want) .none kV10 dc10 pm10 an10 cd10 ct10), sl10⟩)
    (c10 : PySem.W.codeIn K cd10 "want" = true)
    (k10 : PySem.W.keepIn K (.ref f10) = true)
    (a11 : PySem.W.nsIn K mainGlobals "pairs_of" = some (some (.ref f11)))
    (l11 : K.lookup f11 = some ⟨oc11, od11, .func (PySem.W.fnOf "pairs_of" "pairs_of" (defArgs s_pairs_of) (defBody s_pairs_of) (defScope s_pairs_of) .none kV11 dc11 pm11 an11 cd11 ct11), sl11⟩)
    (c11 : PySem.W.codeIn K cd11 "pairs_of" = true)
    (k11 : PySem.W.keepIn K (.ref f11) = true)
    (a12 : PySem.W.nsIn K mainGlobals "is_rising" = some (some (.ref f12)))
    (l12 : K.lookup f12 = some ⟨oc12, od12, .func (PySem.W.fnOf "is_rising" "is_rising" (defArgs s_is_rising) (defBody s_is_rising) (defScope s_is_rising) .none kV12 dc12 pm12 an12 cd12 ct12), sl12⟩)
    (c12 : PySem.W.codeIn K cd12 "is_rising" = true)
    (k12 : PySem.W.keepIn K (.ref f12) = true)
    (a13 : PySem.W.nsIn K mainGlobals "are_edges" = some (some (.ref f13)))
    (l13 : K.lookup f13 = some ⟨oc13, od13, .func (PySem.W.fnOf "are_edges" "are_edges" (defArgs s_are_edges) (defBody s_are_edges) (defScope s_are_edges) .none kV13 dc13 pm13 an13 cd13 ct13), sl13⟩)
    (c13 : PySem.W.codeIn K cd13 "are_edges" = true)
    (k13 : PySem.W.keepIn K (.ref f13) = true)
    (a14 : PySem.W.nsIn K mainGlobals "are_adjacent" = some (some (.ref f14)))
    (l14 : K.lookup f14 = some ⟨oc14, od14, .func (PySem.W.fnOf "are_adjacent" "are_adjacent" (defArgs s_are_adjacent) (defBody s_are_adjacent) (defScope s_are_adjacent) .none kV14 dc14 pm14 an14 cd14 ct14), sl14⟩)
    (c14 : PySem.W.codeIn K cd14 "are_adjacent" = true)
    (k14 : PySem.W.keepIn K (.ref f14) = true)
    (a15 : PySem.W.nsIn K mainGlobals "neighbours" = some (some (.ref f15)))
    (l15 : K.lookup f15 = some ⟨oc15, od15, .func (PySem.W.fnOf "neighbours" "neighbours" (defArgs s_neighbours) (defBody s_neighbours) (defScope s_neighbours) .none kV15 dc15 pm15 an15 cd15 ct15), sl15⟩)
    (c15 : PySem.W.codeIn K cd15 "neighbours" = true)
    (k15 : PySem.W.keepIn K (.ref f15) = true)
    (a16 : PySem.W.nsIn K mainGlobals "read_graph" = some (some (.ref f16)))
    (l16 : K.lookup f16 = some ⟨oc16, od16, .func (PySem.W.fnOf "read_graph" "read_graph" (defArgs s_read_graph) (defBody s_read_graph) (defScope s_read_graph) .none kV16 dc16 pm16 an16 cd16 ct16), sl16⟩)
    (c16 : PySem.W.codeIn K cd16 "read_graph" = true)
    (k16 : PySem.W.keepIn K (.ref f16) = true)
    (a17 : PySem.W.nsIn K mainGlobals "is_next_to" = some (some (.ref f17)))
    (l17 : K.lookup f17 = some ⟨oc17, od17, .func (PySem.W.fnOf "is_next_to" "is_next_to" (defArgs s_is_next_to) (defBody s_is_next_to) (defScope s_is_next_to) .none kV17 dc17 pm17 an17 cd17 ct17), sl17⟩)
    (c17 : PySem.W.codeIn K cd17 "is_next_to" = true)
    (k17 : PySem.W.keepIn K (.ref f17) = true)
    (a18 : PySem.W.nsIn K mainGlobals "distances" = some (some (.ref f18)))
    (l18 : K.lookup f18 = some ⟨oc18, od18, .func (PySem.W.fnOf "distances" "distances" (defArgs s_distances) (defBody s_distances) (defScope s_distances) .none kV18 dc18 pm18 an18 cd18 ct18), sl18⟩)
    (c18 : PySem.W.codeIn K cd18 "distances" = true)
    (k18 : PySem.W.keepIn K (.ref f18) = true)
    (a19 : PySem.W.nsIn K mainGlobals "is_connected" = some (some (.ref f19)))
    (l19 : K.lookup f19 = some ⟨oc19, od19, .func (PySem.W.fnOf "is_connected" "is_connected" (defArgs s_is_connected) (defBody s_is_connected) (defScope s_is_connected) .none kV19 dc19 pm19 an19 cd19 ct19), sl19⟩)
    (c19 : PySem.W.codeIn K cd19 "is_connected" = true)
    (k19 : PySem.W.keepIn K (.ref f19) = true)
    (a20 : PySem.W.nsIn K mainGlobals "diameter" = some (some (.ref f20)))
    (l20 : K.lookup f20 = some ⟨oc20, od20, .func (PySem.W.fnOf "diameter" "diameter" (defArgs s_diameter) (defBody s_diameter) (defScope s_diameter) .none kV20 dc20 pm20 an20 cd20 ct20), sl20⟩)
    (c20 : PySem.W.codeIn K cd20 "diameter" = true)
    (k20 : PySem.W.keepIn K (.ref f20) = true)
    (a21 : PySem.W.nsIn K mainGlobals "want_target" = some (some (.ref f21)))
    (l21 : K.lookup f21 = some ⟨oc21, od21, .func (PySem.W.fnOf "want_target" "want_target" (defArgs s_want_target) (defBody s_want_target) (defScope s_want_target) .none kV21 dc21 pm21 an21 cd21 ct21), sl21⟩)
    (c21 : PySem.W.codeIn K cd21 "want_target" = true)
    (k21 : PySem.W.keepIn K (.ref f21) = true)
    (a22 : PySem.W.nsIn K mainGlobals "read_narrow" = some (some (.ref f22)))
    (l22 : K.lookup f22 = some ⟨oc22, od22, .func (PySem.W.fnOf "read_narrow" "read_narrow" (defArgs s_read_narrow) (defBody s_read_narrow) (defScope s_read_narrow) .none kV22 dc22 pm22 an22 cd22 ct22), sl22⟩)
    (c22 : PySem.W.codeIn K cd22 "read_narrow" = true)
    (k22 : PySem.W.keepIn K (.ref f22) = true)
    (a23 : PySem.W.nsIn K mainGlobals "number_by" = some (some (.ref f23)))
    (l23 : K.lookup f23 = some ⟨oc23, od23, .func (PySem.W.fnOf "number_by" "number_by" (defArgs s_number_by) (defBody s_number_by) (defScope s_number_by) .none kV23 dc23 pm23 an23 cd23 ct23), sl23⟩)
    (c23 : PySem.W.codeIn K cd23 "number_by" = true)
    (k23 : PySem.W.keepIn K (.ref f23) = true)
    (a24 : PySem.W.nsIn K mainGlobals "rubbling_of" = some (some (.ref f24)))
    (l24 : K.lookup f24 = some ⟨oc24, od24, .func (PySem.W.fnOf "rubbling_of" "rubbling_of" (defArgs s_rubbling_of) (defBody s_rubbling_of) (defScope s_rubbling_of) .none kV24 dc24 pm24 an24 cd24 ct24), sl24⟩)
    (c24 : PySem.W.codeIn K cd24 "rubbling_of" = true)
    (k24 : PySem.W.keepIn K (.ref f24) = true)
    (a25 : PySem.W.nsIn K mainGlobals "rubbling_number" = some (some (.ref f25)))
    (l25 : K.lookup f25 = some ⟨oc25, od25, .func (PySem.W.fnOf "rubbling_number" "rubbling_number" (defArgs s_rubbling_number) (defBody s_rubbling_number) (defScope s_rubbling_number) .none kV25 dc25 pm25 an25 cd25 ct25), sl25⟩)
    (c25 : PySem.W.codeIn K cd25 "rubbling_number" = true)
    (k25 : PySem.W.keepIn K (.ref f25) = true)
    (z0 : PySem.W.nsIn K mainGlobals "NO_TARGET" = some (some (.int (-2) t0)))
    (z1 : PySem.W.nsIn K mainGlobals "OUT_OF_LIMITS" = some (some (.int (-22) t1)))
    (z2 : PySem.W.nsIn K mainGlobals "NOT_THERE" = some (some (.int (-33) t2)))
    (z3 : PySem.W.nsIn K mainGlobals "TOO_WIDE" = some (some (.int (-75) t3)))
    (z4 : PySem.W.nsIn K mainGlobals "MOST_VERTICES" = some (some (.int 5 t4)))
    (z5 : PySem.W.nsIn K mainGlobals "FAR" = some (some (.int (-1) t5)))
    (z6 : PySem.W.nsIn K mainGlobals "MOST_DIAMETER" = some (some (.int 3 t6)))
    (b_len : PySem.W.nsIn K mainGlobals "len" = some none)
    (b_range : PySem.W.nsIn K mainGlobals "range" = some none)
    (b_zip : PySem.W.nsIn K mainGlobals "zip" = some none)
    (b_all : PySem.W.nsIn K mainGlobals "all" = some none)
    (b_any : PySem.W.nsIn K mainGlobals "any" = some none)
    (b_sum : PySem.W.nsIn K mainGlobals "sum" = some none)
    (b_tuple : PySem.W.nsIn K mainGlobals "tuple" = some none)
    (b_list : PySem.W.nsIn K mainGlobals "list" = some none)
    (b_max : PySem.W.nsIn K mainGlobals "max" = some none)
    (b_enumerate : PySem.W.nsIn K mainGlobals "enumerate" = some none)
    : ∃ fd : FuncData, (∀ (s : Shared) (us : List Value), us.length = (["vertex_count", "target", "edges"] : List Str).length → BindsTo s fd ⟨us, []⟩ ((["vertex_count", "target", "edges"] : List Str).zip us)) ∧ ∀ base : Heap, K.In base → base.Ns mainGlobals mg → FnOk P w K mg base CX0 8 fa fd ["vertex_count", "target", "edges"] (sp_rubbling_number K) := by
  have e := hfa.symm.trans (PySem.W.mg_of X G a25)
  cases e
  have FI := fun_mk (st := s_init) xlI xcI xkI
  have bI := FI.binds (ps := ["self", "code"]) (fun _ _ _ _ _ _ us hl => match us, hl with | [_, _], _ => rfl)
  have T : RefTxt K mg C := ⟨⟨⟨nm, q, N, bs, _, sn, sub, ab, col, dd, m0, m1, m2, m3, m5, xL, by decide +kernel⟩, xsa, xeC, xtC, xkC⟩, PySem.W.mg_of X G aC, xnc, ⟨xga, xgg, xeC, xhC⟩, exm_self xeC xiC xtC xsC, PySem.W.mg_none_of X G xmV, xvV, ⟨fI, _, FI, bI, xI, xtI⟩⟩
  have B : Bi mg := ⟨PySem.W.mg_none_of X G b_len, PySem.W.mg_none_of X G b_range, PySem.W.mg_none_of X G b_zip, PySem.W.mg_none_of X G b_all, PySem.W.mg_none_of X G b_any, PySem.W.mg_none_of X G b_sum, PySem.W.mg_none_of X G b_tuple, PySem.W.mg_none_of X G b_list, PySem.W.mg_none_of X G b_max, PySem.W.mg_none_of X G b_enumerate⟩
  have C_NO_TARGET : ConAt mg "NO_TARGET" (-2) := ⟨_, PySem.W.mg_of X G z0⟩
  have C_OUT_OF_LIMITS : ConAt mg "OUT_OF_LIMITS" (-22) := ⟨_, PySem.W.mg_of X G z1⟩
  have C_NOT_THERE : ConAt mg "NOT_THERE" (-33) := ⟨_, PySem.W.mg_of X G z2⟩
  have C_TOO_WIDE : ConAt mg "TOO_WIDE" (-75) := ⟨_, PySem.W.mg_of X G z3⟩
  have C_MOST_VERTICES : ConAt mg "MOST_VERTICES" 5 := ⟨_, PySem.W.mg_of X G z4⟩
  have C_FAR : ConAt mg "FAR" (-1) := ⟨_, PySem.W.mg_of X G z5⟩
  have C_MOST_DIAMETER : ConAt mg "MOST_DIAMETER" 3 := ⟨_, PySem.W.mg_of X G z6⟩
  have D_rubbling_moves : DefAt K mg "rubbling_moves" s_rubbling_moves ["graph"] := def_mk X G a0 l0 c0 k0 fun _ _ _ _ _ _ us hl => match us, hl with | [_], _ => rfl
  have D_has_pebbles : DefAt K mg "has_pebbles" s_has_pebbles ["configuration", "move"] := def_mk X G a1 l1 c1 k1 fun _ _ _ _ _ _ us hl => match us, hl with | [_, _], _ => rfl
  have D_moved : DefAt K mg "moved" s_moved ["configuration", "move"] := def_mk X G a2 l2 c2 k2 fun _ _ _ _ _ _ us hl => match us, hl with | [_, _], _ => rfl
  have D_all_behind : DefAt K mg "all_behind" s_all_behind ["configuration", "moves"] := def_mk X G a3 l3 c3 k3 fun _ _ _ _ _ _ us hl => match us, hl with | [_, _], _ => rfl
  have D_longer_rows : DefAt K mg "longer_rows" s_longer_rows ["rows"] := def_mk X G a4 l4 c4 k4 fun _ _ _ _ _ _ us hl => match us, hl with | [_], _ => rfl
  have D_configurations : DefAt K mg "configurations" s_configurations ["vertex_count", "many"] := def_mk X G a5 l5 c5 k5 fun _ _ _ _ _ _ us hl => match us, hl with | [_, _], _ => rfl
  have D_can_reach : DefAt K mg "can_reach" s_can_reach ["configuration", "target", "moves", "before"] := def_mk X G a6 l6 c6 k6 fun _ _ _ _ _ _ us hl => match us, hl with | [_, _, _, _], _ => rfl
  have D_reaching : DefAt K mg "reaching" s_reaching ["rows", "target", "moves", "before"] := def_mk X G a7 l7 c7 k7 fun _ _ _ _ _ _ us hl => match us, hl with | [_, _, _, _], _ => rfl
  have D_enough_pebbles : DefAt K mg "enough_pebbles" s_enough_pebbles ["vertex_count", "diameter"] := def_mk X G a8 l8 c8 k8 fun _ _ _ _ _ _ us hl => match us, hl with | [_, _], _ => rfl
  have D_least_number : DefAt K mg "least_number" s_least_number ["vertex_count", "target", "moves", "most"] := def_mk X G a9 l9 c9 k9 fun _ _ _ _ _ _ us hl => match us, hl with | [_, _, _, _], _ => rfl
  have D_want : DefAt K mg "want" s_want ["truth", "code"] := def_mk X G a10 l10 c10 k10 fun _ _ _ _ _ _ us hl => match us, hl with | [_, _], _ => rfl
  have D_pairs_of : DefAt K mg "pairs_of" s_pairs_of ["numbers"] := def_mk X G a11 l11 c11 k11 fun _ _ _ _ _ _ us hl => match us, hl with | [_], _ => rfl
  have D_is_rising : DefAt K mg "is_rising" s_is_rising ["pairs"] := def_mk X G a12 l12 c12 k12 fun _ _ _ _ _ _ us hl => match us, hl with | [_], _ => rfl
  have D_are_edges : DefAt K mg "are_edges" s_are_edges ["vertex_count", "numbers"] := def_mk X G a13 l13 c13 k13 fun _ _ _ _ _ _ us hl => match us, hl with | [_, _], _ => rfl
  have D_are_adjacent : DefAt K mg "are_adjacent" s_are_adjacent ["pairs", "vertex", "other"] := def_mk X G a14 l14 c14 k14 fun _ _ _ _ _ _ us hl => match us, hl with | [_, _, _], _ => rfl
  have D_neighbours : DefAt K mg "neighbours" s_neighbours ["vertex_count", "pairs", "vertex"] := def_mk X G a15 l15 c15 k15 fun _ _ _ _ _ _ us hl => match us, hl with | [_, _, _], _ => rfl
  have D_read_graph : DefAt K mg "read_graph" s_read_graph ["vertex_count", "edges"] := def_mk X G a16 l16 c16 k16 fun _ _ _ _ _ _ us hl => match us, hl with | [_, _], _ => rfl
  have D_is_next_to : DefAt K mg "is_next_to" s_is_next_to ["graph", "known", "vertex", "distance"] := def_mk X G a17 l17 c17 k17 fun _ _ _ _ _ _ us hl => match us, hl with | [_, _, _, _], _ => rfl
  have D_distances : DefAt K mg "distances" s_distances ["graph", "start"] := def_mk X G a18 l18 c18 k18 fun _ _ _ _ _ _ us hl => match us, hl with | [_, _], _ => rfl
  have D_is_connected : DefAt K mg "is_connected" s_is_connected ["graph"] := def_mk X G a19 l19 c19 k19 fun _ _ _ _ _ _ us hl => match us, hl with | [_], _ => rfl
  have D_diameter : DefAt K mg "diameter" s_diameter ["graph"] := def_mk X G a20 l20 c20 k20 fun _ _ _ _ _ _ us hl => match us, hl with | [_], _ => rfl
  have D_want_target : DefAt K mg "want_target" s_want_target ["graph", "target"] := def_mk X G a21 l21 c21 k21 fun _ _ _ _ _ _ us hl => match us, hl with | [_, _], _ => rfl
  have D_read_narrow : DefAt K mg "read_narrow" s_read_narrow ["vertex_count", "target", "edges"] := def_mk X G a22 l22 c22 k22 fun _ _ _ _ _ _ us hl => match us, hl with | [_, _, _], _ => rfl
  have D_number_by : DefAt K mg "number_by" s_number_by ["graph", "target", "moves"] := def_mk X G a23 l23 c23 k23 fun _ _ _ _ _ _ us hl => match us, hl with | [_, _, _], _ => rfl
  have D_rubbling_of : DefAt K mg "rubbling_of" s_rubbling_of ["vertex_count", "target", "edges"] := def_mk X G a24 l24 c24 k24 fun _ _ _ _ _ _ us hl => match us, hl with | [_, _, _], _ => rfl
  refine ⟨PySem.W.fnOf "rubbling_number" "rubbling_number" (defArgs s_rubbling_number) (defBody s_rubbling_number) (defScope s_rubbling_number) .none kV25 dc25 pm25 an25 cd25 ct25, fun s us hu => match us, hu with | [_, _, _], _ => .of_eq rfl, fun base _ _ => ?_⟩
  have H_want : Has P w K mg base (L2.CX P w) 3 "want" ["truth", "code"] (sp_want C) := ok_want D_want T
  have H_pairs_of : Has P w K mg base CX0 1 "pairs_of" ["numbers"] (sp_pairs_of K) := ok_pairs_of D_pairs_of B
  have H_is_rising : Has P w K mg base CX0 1 "is_rising" ["pairs"] sp_is_rising := ok_is_rising D_is_rising B
  have H_are_edges : Has P w K mg base CX0 2 "are_edges" ["vertex_count", "numbers"] (sp_are_edges K) := ok_are_edges D_are_edges B H_pairs_of H_is_rising
  have H_are_adjacent : Has P w K mg base CX0 1 "are_adjacent" ["pairs", "vertex", "other"] sp_are_adjacent := ok_are_adjacent D_are_adjacent
  have H_neighbours : Has P w K mg base CX0 2 "neighbours" ["vertex_count", "pairs", "vertex"] sp_neighbours := ok_neighbours D_neighbours B H_are_adjacent
  have H_read_graph : Has P w K mg base (L2.CX P w) 4 "read_graph" ["vertex_count", "edges"] (sp_read_graph K C) := ok_read_graph D_read_graph B C_MOST_VERTICES C_OUT_OF_LIMITS H_want H_are_edges H_pairs_of H_neighbours
  have H_is_next_to : Has P w K mg base CX0 1 "is_next_to" ["graph", "known", "vertex", "distance"] sp_is_next_to := ok_is_next_to D_is_next_to B
  have H_distances : Has P w K mg base CX0 2 "distances" ["graph", "start"] sp_distances := ok_distances D_distances B C_FAR H_is_next_to
  have H_is_connected : Has P w K mg base CX0 3 "is_connected" ["graph"] sp_is_connected := ok_is_connected D_is_connected C_FAR H_distances
  have H_diameter : Has P w K mg base CX0 3 "diameter" ["graph"] sp_diameter := ok_diameter D_diameter B H_distances
  have H_want_target : Has P w K mg base (L2.CX P w) 4 "want_target" ["graph", "target"] (sp_want_target C) := ok_want_target D_want_target B C_NO_TARGET H_want
  have H_read_narrow : Has P w K mg base (L2.CX P w) 5 "read_narrow" ["vertex_count", "target", "edges"] (sp_read_narrow K C) := ok_read_narrow D_read_narrow C_NOT_THERE C_TOO_WIDE C_MOST_DIAMETER H_want H_read_graph H_is_connected H_diameter H_want_target
  have H_longer_rows : Has P w K mg base CX0 1 "longer_rows" ["rows"] sp_longer_rows := ok_longer_rows D_longer_rows B
  have H_configurations : Has P w K mg base CX0 2 "configurations" ["vertex_count", "many"] sp_configurations := ok_configurations D_configurations B H_longer_rows
  have H_has_pebbles : Has P w K mg base CX0 1 "has_pebbles" ["configuration", "move"] sp_has_pebbles := ok_has_pebbles D_has_pebbles
  have H_moved : Has P w K mg base CX0 1 "moved" ["configuration", "move"] sp_moved := ok_moved D_moved B
  have H_all_behind : Has P w K mg base CX0 2 "all_behind" ["configuration", "moves"] sp_all_behind := ok_all_behind D_all_behind H_has_pebbles H_moved
  have H_can_reach : Has P w K mg base CX0 3 "can_reach" ["configuration", "target", "moves", "before"] sp_can_reach := ok_can_reach D_can_reach B H_all_behind
  have H_reaching : Has P w K mg base CX0 4 "reaching" ["rows", "target", "moves", "before"] sp_reaching := ok_reaching D_reaching H_can_reach
  have H_least_number : Has P w K mg base CX0 5 "least_number" ["vertex_count", "target", "moves", "most"] sp_least_number := ok_least_number D_least_number B H_configurations H_reaching
  have H_enough_pebbles : Has P w K mg base CX0 1 "enough_pebbles" ["vertex_count", "diameter"] sp_enough_pebbles := ok_enough_pebbles D_enough_pebbles B
  have H_number_by : Has P w K mg base CX0 6 "number_by" ["graph", "target", "moves"] sp_number_by := ok_number_by D_number_by B H_least_number H_enough_pebbles H_diameter
  have H_rubbling_moves : Has P w K mg base CX0 1 "rubbling_moves" ["graph"] sp_rubbling_moves := ok_rubbling_moves D_rubbling_moves B
  have H_rubbling_of : Has P w K mg base (L2.CX P w) 7 "rubbling_of" ["vertex_count", "target", "edges"] (sp_rubbling_of K C) := ok_rubbling_of D_rubbling_of H_read_narrow H_number_by H_rubbling_moves
  have F_rubbling_number := fun_mk (st := s_rubbling_number) l25 c25 k25
  exact ok_rubbling_number F_rubbling_number T H_rubbling_of
end
end RW
open PySem PySem.W PyProof.Rows
set_option maxRecDepth 100000 in
set_option maxHeartbeats 8000000 in
theorem PySem.Challenge.cw_neighbourpairs_s03_rubbling_number_holds : PySem.Challenge.rw_neighbourpairs_s03_rubbling_number.Holds := by
  w_on; k_headS; (case hw => exact ⟨[.int 0, .int 0, .list []], by decide +kernel, by decide +kernel⟩)
  k_fillS
  refine L2.walk_specK (r := PySem.Challenge.rw_neighbourpairs_s03_rubbling_number) (k := 8) (CX := L2.CX0) (ps := ["vertex_count", "target", "edges"]) (sp := RW.sp_rubbling_number) (by decide +kernel) rfl rfl ⟨rfl, by decide, by decide⟩ (fun w h Y => PySem.W.kIn_of Y) ?F ?S (fun _ _ _ _ z => z)
  case F =>
    intro w mg fa h Y KX G hmg
    refine' RW.all_mk KX G hmg ?aC ?xL ?xsa ?xga ?xgg ?xnc ?xI ?xtI ?xlI ?xcI ?xkI ?xkC ?xeC ?xtC ?xhC ?xiC ?xsC ?xmV ?xvV ?a0 ?l0 ?c0 ?k0 ?a1 ?l1 ?c1 ?k1 ?a2 ?l2 ?c2 ?k2 ?a3 ?l3 ?c3 ?k3 ?a4 ?l4 ?c4 ?k4 ?a5 ?l5 ?c5 ?k5 ?a6 ?l6 ?c6 ?k6 ?a7 ?l7 ?c7 ?k7 ?a8 ?l8 ?c8 ?k8 ?a9 ?l9 ?c9 ?k9 ?a10 ?l10 ?c10 ?k10 ?a11 ?l11 ?c11 ?k11 ?a12 ?l12 ?c12 ?k12 ?a13 ?l13 ?c13 ?k13 ?a14 ?l14 ?c14 ?k14 ?a15 ?l15 ?c15 ?k15 ?a16 ?l16 ?c16 ?k16 ?a17 ?l17 ?c17 ?k17 ?a18 ?l18 ?c18 ?k18 ?a19 ?l19 ?c19 ?k19 ?a20 ?l20 ?c20 ?k20 ?a21 ?l21 ?c21 ?k21 ?a22 ?l22 ?c22 ?k22 ?a23 ?l23 ?c23 ?k23 ?a24 ?l24 ?c24 ?k24 ?a25 ?l25 ?c25 ?k25 ?z0 ?z1 ?z2 ?z3 ?z4 ?z5 ?z6 ?b_len ?b_range ?b_zip ?b_all ?b_any ?b_sum ?b_tuple ?b_list ?b_max ?b_enumerate
    (case aC => k_is)
    (case xL => k_is)
    (case xsa => k_is)
    (case xga => k_is)
    (case xgg => k_is)
    (case xnc => k_is)
    (case xI => k_is)
    (case xtI => k_is)
    (case xlI => k_is)
    (case xcI => k_is)
    (case xkI => k_is)
    (case xkC => k_is)
    (case xeC => k_is)
    (case xtC => k_is)
    (case xhC => k_is)
    (case xiC => k_is)
    (case xsC => first | rfl | k_is)
    (case xmV => k_is)
    (case xvV => first | rfl | k_is)
    (case a0 => k_is)
    (case l0 => k_is)
    (case c0 => k_is)
    (case k0 => k_is)
    (case a1 => k_is)
    (case l1 => k_is)
    (case c1 => k_is)
    (case k1 => k_is)
    (case a2 => k_is)
    (case l2 => k_is)
    (case c2 => k_is)
    (case k2 => k_is)
    (case a3 => k_is)
    (case l3 => k_is)
    (case c3 => k_is)
    (case k3 => k_is)
    (case a4 => k_is)
    (case l4 => k_is)
    (case c4 => k_is)
    (case k4 => k_is)
    (case a5 => k_is)
    (case l5 => k_is)
    (case c5 => k_is)
    (case k5 => k_is)
    (case a6 => k_is)
    (case l6 => k_is)
    (case c6 => k_is)
    (case k6 => k_is)
    (case a7 => k_is)
    (case l7 => k_is)
    (case c7 => k_is)
    (case k7 => k_is)
    (case a8 => k_is)
    (case l8 => k_is)
    (case c8 => k_is)
    (case k8 => k_is)
    (case a9 => k_is)
    (case l9 => k_is)
    (case c9 => k_is)
    (case k9 => k_is)
    (case a10 => k_is)
    (case l10 => k_is)
    (case c10 => k_is)
    (case k10 => k_is)
    (case a11 => k_is)
    (case l11 => k_is)
    (case c11 => k_is)
    (case k11 => k_is)
    (case a12 => k_is)
    (case l12 => k_is)
    (case c12 => k_is)
    (case k12 => k_is)
    (case a13 => k_is)
    (case l13 => k_is)
    (case c13 => k_is)
    (case k13 => k_is)
    (case a14 => k_is)
    (case l14 => k_is)
    (case c14 => k_is)
    (case k14 => k_is)
    (case a15 => k_is)
    (case l15 => k_is)
    (case c15 => k_is)
    (case k15 => k_is)
    (case a16 => k_is)
    (case l16 => k_is)
    (case c16 => k_is)
    (case k16 => k_is)
    (case a17 => k_is)
    (case l17 => k_is)
    (case c17 => k_is)
    (case k17 => k_is)
    (case a18 => k_is)
    (case l18 => k_is)
    (case c18 => k_is)
    (case k18 => k_is)
    (case a19 => k_is)
    (case l19 => k_is)
    (case c19 => k_is)
    (case k19 => k_is)
    (case a20 => k_is)
    (case l20 => k_is)
    (case c20 => k_is)
    (case k20 => k_is)
    (case a21 => k_is)
    (case l21 => k_is)
    (case c21 => k_is)
    (case k21 => k_is)
    (case a22 => k_is)
    (case l22 => k_is)
    (case c22 => k_is)
    (case k22 => k_is)
    (case a23 => k_is)
    (case l23 => k_is)
    (case c23 => k_is)
    (case k23 => k_is)
    (case a24 => k_is)
    (case l24 => k_is)
    (case c24 => k_is)
    (case k24 => k_is)
    (case a25 => k_is)
    (case l25 => k_is)
    (case c25 => k_is)
    (case k25 => k_is)
    (case z0 => k_is)
    (case z1 => k_is)
    (case z2 => k_is)
    (case z3 => k_is)
    (case z4 => k_is)
    (case z5 => k_is)
    (case z6 => k_is)
    (case b_len => k_is)
    (case b_range => k_is)
    (case b_zip => k_is)
    (case b_all => k_is)
    (case b_any => k_is)
    (case b_sum => k_is)
    (case b_tuple => k_is)
    (case b_list => k_is)
    (case b_max => k_is)
    (case b_enumerate => k_is)
  case S =>
    intro K H xs a hO hwi hask hx
    obtain ⟨a0, a1, a2, u⟩ := a
    have w0 := (Bool.and_eq_true_iff.mp hwi).1
    have w1 := (Bool.and_eq_true_iff.mp (Bool.and_eq_true_iff.mp hwi).2).1
    have w2 := (Bool.and_eq_true_iff.mp (Bool.and_eq_true_iff.mp (Bool.and_eq_true_iff.mp hwi).2).2).1
    obtain ⟨n, e0⟩ := RW.nat_arg w0
    obtain ⟨t, e1⟩ := RW.nat_arg w1
    obtain ⟨es, e2, z2⟩ := RW.nats_arg w2
    have e0 : a0 = (n : Int) := e0
    have e1 : a1 = (t : Int) := e1
    have e2 : a2 = Rub.ofNats es := e2
    subst e0 e1 e2
    obtain _ | ⟨h0, hx⟩ := hx
    obtain _ | ⟨h1, hx⟩ := hx
    obtain _ | ⟨h2, hx⟩ := hx
    cases hx
    obtain rfl := RW.dw_int h0
    obtain rfl := RW.dw_int h1
    obtain ⟨b2, rfl, s2⟩ := RW.dw_list h2
    refine ⟨n, t, b2, es, rfl, s2, by omega, fun p H' hp => ?_⟩
    rw [← Rub.rub_spec] at hp
    exact .lst (L2.SqL.of hp) (L2.dw_ints _)
#print axioms PySem.Challenge.cw_neighbourpairs_s03_rubbling_number_holds
