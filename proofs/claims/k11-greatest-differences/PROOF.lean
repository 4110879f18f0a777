import PyProof.Rows.All
import Wide.All
import OpenK.AllK
import Wide.FinOn
import PyProof.EqAt
import PyProof.EqKinds
import PyProof.TupleCall
import PyProof.DictCompW
import KE.GoesEnum
import HandS.ForMost
import HandS.DictComp
import HandS.Walk
import HandS.IsInst
import HandS.TupAny
import HandS.Deep
import HandS.Wide
import HandS.Conv
import HandS.Flow
import HandS.Codes
import PySem.Challenge.RW_allbide_k11_whole_greatest_differences
set_option Elab.async false
set_option linter.all false
set_option maxRecDepth 100000
set_option maxHeartbeats 8000000
/-! The net's mathematics: edges, walks, dicts of least lengths. -/
namespace Ab

/-- a rule: start, end, low, high -/
structure Rl where
  s : Int
  e : Int
  lo : Option Int
  hi : Option Int

/-- an edge: near, far, weight -/
structure Ed where
  a : Int
  b : Int
  w : Int

def edHi (r : Rl) : List Ed := match r.hi with
  | some h => [⟨r.s, r.e, h⟩]
  | none => []
def edLo (r : Rl) : List Ed := match r.lo with
  | some l => [⟨r.e, r.s, 0 - l⟩]
  | none => []
def edOne (r : Rl) : List Ed := edHi r ++ edLo r
def edges (rs : List Rl) : List Ed := rs.flatMap edOne

/-- a dict of lengths by pairs of events, in its order -/
abbrev WM := List ((Int × Int) × Int)
def valM (m : WM) (k : Int × Int) : Option Int := (m.find? fun p => decide (p.1 = k)).map (·.2)
def putM (m : WM) (k : Int × Int) (v : Int) : WM :=
  if (m.any fun p => decide (p.1 = k)) = true then m.map (fun p => if p.1 = k then (p.1, v) else p) else m ++ [(k, v)]
def relax (m : WM) (k : Int × Int) (c : Int) : WM := match valM m k with
  | none => putM m k c
  | some d => if c < d then putM m k c else m

theorem valM_nil {k : Int × Int} : valM [] k = none := rfl
theorem valM_pos {p : (Int × Int) × Int} {r : WM} {k : Int × Int} (e : p.1 = k) : valM (p :: r) k = some p.2 := by
  simp [valM, List.find?_cons, e]
theorem valM_neg {p : (Int × Int) × Int} {r : WM} {k : Int × Int} (e : ¬ p.1 = k) : valM (p :: r) k = valM r k := by
  simp [valM, List.find?_cons, e]
theorem valM_any (k : Int × Int) : ∀ m : WM, (m.any fun p => decide (p.1 = k)) = (valM m k).isSome
  | [] => rfl
  | p :: r => by
    by_cases e : p.1 = k
    · simp [valM_pos e, e]
    · simp [valM_neg e, e, valM_any k r]
theorem valM_map (k j : Int × Int) (y : Int) : ∀ m : WM, valM (m.map fun p => if p.1 = k then (p.1, y) else p) j = (valM m j).map fun x => if j = k then y else x
  | [] => rfl
  | p :: r => by
    have ih := valM_map k j y r
    rw [List.map_cons]
    by_cases e : p.1 = k
    · rw [if_pos e]
      by_cases ej : p.1 = j
      · rw [valM_pos (by exact ej), valM_pos ej]
        have : j = k := ej.symm.trans e
        simp [this]
      · rw [valM_neg (by exact ej), valM_neg ej, ih]
    · rw [if_neg e]
      by_cases ej : p.1 = j
      · rw [valM_pos ej, valM_pos ej]
        have : ¬ j = k := fun q => e (ej.trans q)
        simp [this]
      · rw [valM_neg ej, valM_neg ej, ih]
theorem valM_snoc (k j : Int × Int) (y : Int) : ∀ m : WM, valM m k = none → valM (m ++ [(k, y)]) j = if j = k then some y else valM m j
  | [], _ => by
    by_cases e : k = j
    · rw [List.nil_append, valM_pos e, if_pos e.symm]
    · rw [List.nil_append, valM_neg e, if_neg fun q => e q.symm]
  | p :: r, h => by
    have e : ¬ p.1 = k := fun e => by rw [valM_pos e] at h; cases h
    rw [valM_neg e] at h
    have ih := valM_snoc k j y r h
    by_cases ej : p.1 = j
    · rw [List.cons_append, valM_pos ej, valM_pos ej, if_neg fun q => e (ej.trans q)]
    · rw [List.cons_append, valM_neg ej, valM_neg ej, ih]
theorem valM_put (m : WM) (k j : Int × Int) (y : Int) : valM (putM m k y) j = if j = k then some y else valM m j := by
  unfold putM
  rw [valM_any]
  cases h : valM m k with
  | none => rw [if_neg (by simp), valM_snoc k j y m h]
  | some x =>
    rw [if_pos (by rfl), valM_map]
    by_cases e : j = k
    · subst e; simp [h]
    · simp [e]
theorem putM_new {m : WM} {k : Int × Int} {v : Int} (h : valM m k = none) : putM m k v = m ++ [(k, v)] := by
  unfold putM
  rw [valM_any, h, if_neg (by simp)]
theorem valM_mem {m : WM} {k : Int × Int} {v : Int} (h : valM m k = some v) : (k, v) ∈ m := by
  induction m with
  | nil => cases h
  | cons p r ih =>
    by_cases e : p.1 = k
    · rw [valM_pos e] at h
      cases h
      subst e
      exact List.mem_cons_self
    · rw [valM_neg e] at h
      exact List.mem_cons_of_mem _ (ih h)
abbrev keysM (m : WM) : List (Int × Int) := m.map (·.1)
theorem mem_keys {m : WM} {k : Int × Int} : k ∈ keysM m ↔ ∃ v, valM m k = some v := by
  constructor
  · intro h
    obtain ⟨p, hp, e⟩ := List.mem_map.mp h
    have q : (m.any fun p => decide (p.1 = k)) = true := List.any_eq_true.mpr ⟨p, hp, decide_eq_true e⟩
    rw [valM_any] at q
    exact Option.isSome_iff_exists.mp q
  · rintro ⟨v, h⟩
    exact List.mem_map.mpr ⟨_, valM_mem h, rfl⟩
theorem valM_of_mem : ∀ {m : WM} {k : Int × Int} {v : Int}, (keysM m).Nodup → (k, v) ∈ m → valM m k = some v
  | p :: r, k, v, hn, h => by
    have hn' : (p.1 :: keysM r).Nodup := hn
    obtain ⟨h1, h2⟩ := List.nodup_cons.mp hn'
    rcases List.mem_cons.mp h with e | h
    · subst e
      exact valM_pos rfl
    · have ne : ¬ p.1 = k := fun e => h1 (List.mem_map.mpr ⟨_, h, e.symm⟩)
      rw [valM_neg ne]
      exact valM_of_mem h2 h
theorem keys_put (m : WM) (k : Int × Int) (v : Int) : keysM (putM m k v) = if (valM m k).isSome then keysM m else keysM m ++ [k] := by
  unfold putM
  rw [valM_any]
  cases h : valM m k with
  | none => simp
  | some x =>
    simp only [Option.isSome_some, if_true, keysM, List.map_map]
    apply List.map_congr_left
    intro p _
    show (if p.1 = k then (p.1, v) else p).1 = p.1
    split <;> rfl
theorem nd_put {m : WM} {k : Int × Int} {v : Int} (h : (keysM m).Nodup) : (keysM (putM m k v)).Nodup := by
  rw [keys_put]
  split
  · exact h
  · rename_i hs
    rw [List.nodup_append]
    refine ⟨h, by simp, ?_⟩
    intro a ha b hb e
    have hb' : b = k := by simpa using hb
    obtain ⟨x, hx⟩ := mem_keys.mp ha
    rw [e, hb'] at hx
    rw [hx] at hs
    exact hs rfl
theorem nd_relax {m : WM} {k : Int × Int} {c : Int} (h : (keysM m).Nodup) : (keysM (relax m k c)).Nodup := by
  unfold relax
  split
  · exact nd_put h
  · split
    · exact nd_put h
    · exact h
theorem len_put (m : WM) (k : Int × Int) (v : Int) : (putM m k v).length ≤ m.length + 1 := by
  unfold putM
  split
  · simp
  · simp
theorem len_relax (m : WM) (k : Int × Int) (c : Int) : (relax m k c).length ≤ m.length + 1 := by
  unfold relax
  split
  · exact len_put ..
  · split
    · exact len_put ..
    · exact Nat.le_succ _

/-- what stands at j behind relax -/
theorem valM_relax (m : WM) (k j : Int × Int) (c : Int) : valM (relax m k c) j = if j = k then some (match valM m k with | none => c | some d => if c < d then c else d) else valM m j := by
  unfold relax
  cases h : valM m k with
  | none => simp only [valM_put]
  | some d =>
    simp only
    by_cases hc : c < d
    · rw [if_pos hc, if_pos hc, valM_put]
    · rw [if_neg hc, if_neg hc]
      by_cases e : j = k
      · rw [if_pos e, e, h]
      · rw [if_neg e]

/-- many relaxations -/
def relaxes (m : WM) (cs : List ((Int × Int) × Int)) : WM := cs.foldl (fun acc c => relax acc c.1 c.2) m
theorem relaxes_cons (m : WM) (c : (Int × Int) × Int) (cs : List ((Int × Int) × Int)) : relaxes m (c :: cs) = relaxes (relax m c.1 c.2) cs := rfl
theorem relaxes_from : ∀ (cs : List ((Int × Int) × Int)) (m : WM) (k : Int × Int) (L : Int), valM (relaxes m cs) k = some L → valM m k = some L ∨ (k, L) ∈ cs
  | [], m, k, L, h => .inl h
  | c :: cs, m, k, L, h => by
    rw [relaxes_cons] at h
    rcases relaxes_from cs _ k L h with q | q
    · rw [valM_relax] at q
      by_cases e : k = c.1
      · rw [if_pos e] at q
        cases hv : valM m c.1 with
        | none =>
          rw [hv] at q
          refine .inr (List.mem_cons.mpr (.inl ?_))
          have e2 : c.2 = L := Option.some.inj q
          rw [e, ← e2]
        | some d =>
          rw [hv] at q
          have e2 : (if c.2 < d then c.2 else d) = L := Option.some.inj q
          by_cases hc : c.2 < d
          · rw [if_pos hc] at e2
            refine .inr (List.mem_cons.mpr (.inl ?_))
            rw [e, ← e2]
          · rw [if_neg hc] at e2
            left
            rw [e, hv, e2]
      · rw [if_neg e] at q
        exact .inl q
    · exact .inr (List.mem_cons_of_mem _ q)
theorem relaxes_le : ∀ (cs : List ((Int × Int) × Int)) (m : WM) (k : Int × Int) (c : Int), (valM m k = some c ∨ (k, c) ∈ cs) → ∃ L, valM (relaxes m cs) k = some L ∧ L ≤ c
  | [], m, k, c, h => by
    rcases h with h | h
    · exact ⟨c, h, Int.le_refl _⟩
    · cases h
  | d :: cs, m, k, c, h => by
    rw [relaxes_cons]
    have key : (k, c) ∈ cs ∨ ∃ L, valM (relax m d.1 d.2) k = some L ∧ L ≤ c := by
      rcases h with h | h
      · right
        rw [valM_relax]
        by_cases e : k = d.1
        · rw [if_pos e, ← e, h]
          refine ⟨_, rfl, ?_⟩
          show (if d.2 < c then d.2 else c) ≤ c
          split <;> omega
        · rw [if_neg e]
          exact ⟨c, h, Int.le_refl _⟩
      · rcases List.mem_cons.mp h with e | h
        · right
          rw [← e, valM_relax, if_pos rfl]
          refine ⟨_, rfl, ?_⟩
          cases valM m k with
          | none => exact Int.le_refl _
          | some x =>
            show (if c < x then c else x) ≤ c
            split <;> omega
        · exact .inl h
    rcases key with q | ⟨L, h1, h2⟩
    · exact relaxes_le cs _ k c (.inr q)
    · obtain ⟨L', h3, h4⟩ := relaxes_le cs _ k L (.inl h1)
      exact ⟨L', h3, Int.le_trans h4 h2⟩
theorem nd_relaxes : ∀ {cs : List ((Int × Int) × Int)} {m : WM}, (keysM m).Nodup → (keysM (relaxes m cs)).Nodup
  | [], _, h => h
  | c :: cs, m, h => by
    rw [relaxes_cons]
    exact nd_relaxes (nd_relax h)

/-- one entry's part of the next dict -/
def stepE (k : Int × Int) (len : Int) (acc : WM) (e : Ed) : WM := if e.a = k.2 then relax acc (k.1, e.b) (len + e.w) else acc
def stepP (es : List Ed) (acc : WM) (p : (Int × Int) × Int) : WM := es.foldl (stepE p.1 p.2) acc
/-- the walks with one edge more -/
def longer (es : List Ed) (m : WM) : WM := m.foldl (stepP es) []
def candP (es : List Ed) (p : (Int × Int) × Int) : List ((Int × Int) × Int) := es.filterMap fun e => if e.a = p.1.2 then some ((p.1.1, e.b), p.2 + e.w) else none
def cands (es : List Ed) (m : WM) : List ((Int × Int) × Int) := m.flatMap (candP es)
theorem stepP_eq (p : (Int × Int) × Int) : ∀ (es : List Ed) (acc : WM), stepP es acc p = relaxes acc (candP es p)
  | [], acc => rfl
  | e :: es, acc => by
    have ih := stepP_eq p es
    unfold stepP candP at *
    rw [List.foldl_cons, List.filterMap_cons, ih]
    unfold stepE
    by_cases h : e.a = p.1.2
    · rw [if_pos h, if_pos h]; rfl
    · rw [if_neg h, if_neg h]
theorem relaxes_append (m : WM) (a b : List ((Int × Int) × Int)) : relaxes m (a ++ b) = relaxes (relaxes m a) b := List.foldl_append ..
theorem fold_stepP (es : List Ed) : ∀ (m acc : WM), m.foldl (stepP es) acc = relaxes acc (cands es m)
  | [], acc => rfl
  | p :: m, acc => by
    rw [List.foldl_cons, fold_stepP es m, stepP_eq]
    show _ = relaxes acc (candP es p ++ cands es m)
    rw [relaxes_append]
theorem longer_eq (es : List Ed) (m : WM) : longer es m = relaxes [] (cands es m) := fold_stepP es m []
theorem nd_longer (es : List Ed) (m : WM) : (keysM (longer es m)).Nodup := by
  rw [longer_eq]
  exact nd_relaxes List.nodup_nil
theorem mem_cands {es : List Ed} {m : WM} {k : Int × Int} {c : Int} : (k, c) ∈ cands es m ↔ ∃ p ∈ m, ∃ e ∈ es, e.a = p.1.2 ∧ k = (p.1.1, e.b) ∧ c = p.2 + e.w := by
  unfold cands candP
  simp only [List.mem_flatMap, List.mem_filterMap]
  constructor
  · rintro ⟨p, hp, e, he, h⟩
    split at h
    · rename_i q
      cases h
      exact ⟨p, hp, e, he, q, rfl, rfl⟩
    · cases h
  · rintro ⟨p, hp, e, he, h1, rfl, rfl⟩
    exact ⟨p, hp, e, he, by rw [if_pos h1]⟩

/-- a walk of k edges from i to j with the length L, between events below n -/
def W (n : Int) (es : List Ed) : Nat → Int → Int → Int → Prop
  | 0, i, j, L => 0 ≤ i ∧ i < n ∧ j = i ∧ L = 0
  | k + 1, i, j, L => ∃ h w L', W n es k i h L' ∧ (⟨h, j, w⟩ : Ed) ∈ es ∧ L = L' + w
/-- a dict holds the least of what P tells -/
structure IsMin (m : WM) (P : Int → Int → Int → Prop) : Prop where
  nd : (keysM m).Nodup
  snd : ∀ i j L, valM m (i, j) = some L → P i j L
  le : ∀ i j L, P i j L → ∃ L', valM m (i, j) = some L' ∧ L' ≤ L
theorem isMin_longer {n : Int} {es : List Ed} {m : WM} {k : Nat} (h : IsMin m (W n es k)) : IsMin (longer es m) (W n es (k + 1)) := by
  refine ⟨nd_longer es m, fun i j L hv => ?_, fun i j L hw => ?_⟩
  · rw [longer_eq] at hv
    rcases relaxes_from _ _ _ _ hv with q | q
    · cases q
    · obtain ⟨p, hp, e, he, h1, h2, h3⟩ := mem_cands.mp q
      obtain ⟨⟨pi, ph⟩, pl⟩ := p
      have hi : i = pi := congrArg Prod.fst h2
      have hj : j = e.b := congrArg Prod.snd h2
      have := h.snd pi ph pl (valM_of_mem h.nd hp)
      refine ⟨ph, e.w, pl, by rw [hi]; exact this, ?_, h3⟩
      have e1 : e.a = ph := h1
      rw [hj, ← e1]
      exact he
  · obtain ⟨hh, w, L', hw', hm, rfl⟩ := hw
    obtain ⟨L2, hv, hle⟩ := h.le _ _ _ hw'
    obtain ⟨L3, h3, h4⟩ := relaxes_le (cands es m) [] (i, j) (L2 + w) (.inr (mem_cands.mpr ⟨_, valM_mem hv, _, hm, rfl, rfl, rfl⟩))
    exact ⟨L3, by rw [longer_eq]; exact h3, by omega⟩

/-- the dict of the walks without edges -/
def initM (n : Nat) : WM := (List.range n).map fun (i : Nat) => (((i : Int), (i : Int)), (0 : Int))
theorem keys_init (n : Nat) : keysM (initM n) = (List.range n).map fun (i : Nat) => ((i : Int), (i : Int)) := by
  unfold keysM initM
  rw [List.map_map]
  rfl
theorem nd_init (n : Nat) : (keysM (initM n)).Nodup := by
  rw [keys_init]
  refine List.Pairwise.map _ ?_ List.nodup_range
  intro a b hab e
  have := congrArg Prod.fst e
  simp only at this
  omega
theorem isMin_init (n : Nat) (es : List Ed) : IsMin (initM n) (W n es 0) := by
  refine ⟨nd_init n, fun i j L hv => ?_, fun i j L hw => ?_⟩
  · have hm := valM_mem hv
    obtain ⟨q, hq, e⟩ := List.mem_map.mp hm
    have hq' := List.mem_range.mp hq
    cases e
    exact ⟨by omega, by omega, rfl, rfl⟩
  · obtain ⟨h1, h2, rfl, rfl⟩ := hw
    refine ⟨0, valM_of_mem (nd_init n) ?_, Int.le_refl _⟩
    refine List.mem_map.mpr ⟨j.toNat, List.mem_range.mpr (by omega), ?_⟩
    have : ((j.toNat : Nat) : Int) = j := by omega
    rw [this]
/-- the dict of the walks of k edges -/
def iterM (n : Nat) (es : List Ed) : Nat → WM
  | 0 => initM n
  | k + 1 => longer es (iterM n es k)
theorem isMin_iter (n : Nat) (es : List Ed) : ∀ k, IsMin (iterM n es k) (W n es k)
  | 0 => isMin_init n es
  | k + 1 => isMin_longer (isMin_iter n es k)

/-- a round below 0 among the walks of m -/
def negAt (m : WM) (i : Int) : Bool := match valM m (i, i) with
  | some L => decide (L < 0)
  | none => false
def negM (n : Nat) (m : WM) : Bool := (List.range n).any fun i => negAt m i
def hasRound (n : Nat) (es : List Ed) : Bool := (List.range n).any fun t => negM n (iterM n es (t + 1))
/-- the best of the walks of at most k edges -/
def bestM (n : Nat) (es : List Ed) : Nat → WM
  | 0 => initM n
  | k + 1 => relaxes (bestM n es k) (iterM n es (k + 1))
def finalM (n : Nat) (es : List Ed) : WM := bestM n es (n - 1)
theorem isMin_best (n : Nat) (es : List Ed) : ∀ k, IsMin (bestM n es k) (fun i j L => ∃ q, q ≤ k ∧ W n es q i j L)
  | 0 => by
    have h := isMin_init n es
    refine ⟨h.nd, fun i j L hv => ⟨0, Nat.le_refl _, h.snd i j L hv⟩, ?_⟩
    rintro i j L ⟨q, hq, hw⟩
    obtain rfl : q = 0 := by omega
    exact h.le i j L hw
  | k + 1 => by
    have hb := isMin_best n es k
    have hi := isMin_iter n es (k + 1)
    refine ⟨nd_relaxes hb.nd, fun i j L hv => ?_, ?_⟩
    · rcases relaxes_from _ _ _ _ hv with q | q
      · obtain ⟨r, h1, h2⟩ := hb.snd i j L q
        exact ⟨r, by omega, h2⟩
      · exact ⟨k + 1, Nat.le_refl _, hi.snd i j L (valM_of_mem hi.nd q)⟩
    · rintro i j L ⟨q, hq, hw⟩
      by_cases e : q = k + 1
      · subst e
        obtain ⟨L1, h1, h2⟩ := hi.le i j L hw
        obtain ⟨L2, h3, h4⟩ := relaxes_le (iterM n es (k + 1)) (bestM n es k) (i, j) L1 (.inr (valM_mem h1))
        exact ⟨L2, h3, by omega⟩
      · obtain ⟨L1, h1, h2⟩ := hb.le i j L ⟨q, by omega, hw⟩
        obtain ⟨L2, h3, h4⟩ := relaxes_le (iterM n es (k + 1)) (bestM n es k) (i, j) L1 (.inl h1)
        exact ⟨L2, h3, by omega⟩
end Ab

/-! The tight bounds of a small net, and what the law asks of them. -/
namespace Ab

def EdOk (n : Int) (es : List Ed) : Prop := ∀ e ∈ es, 0 ≤ e.a ∧ e.a < n ∧ 0 ≤ e.b ∧ e.b < n ∧ -4 ≤ e.w ∧ e.w ≤ 4
section
variable {n : Int} {es : List Ed}
theorem W_range (ok : EdOk n es) : ∀ {k : Nat} {i j L : Int}, W n es k i j L → (0 ≤ i ∧ i < n) ∧ (0 ≤ j ∧ j < n)
  | 0, i, j, L, h => by
    obtain ⟨h1, h2, rfl, _⟩ := h
    exact ⟨⟨h1, h2⟩, ⟨h1, h2⟩⟩
  | k + 1, i, j, L, h => by
    obtain ⟨hh, w, L', hw, hm, rfl⟩ := h
    obtain ⟨_, _, h3, h4, _, _⟩ := ok _ hm
    exact ⟨(W_range ok hw).1, ⟨h3, h4⟩⟩
theorem W_len (ok : EdOk n es) : ∀ {k : Nat} {i j L : Int}, W n es k i j L → -(4 * (k : Int)) ≤ L ∧ L ≤ 4 * (k : Int)
  | 0, i, j, L, h => by
    obtain ⟨_, _, _, rfl⟩ := h
    exact ⟨by omega, by omega⟩
  | k + 1, i, j, L, h => by
    obtain ⟨hh, w, L', hw, hm, rfl⟩ := h
    obtain ⟨_, _, _, _, h5, h6⟩ := ok _ hm
    have := W_len ok hw
    have h5' : -4 ≤ w := h5
    have h6' : w ≤ 4 := h6
    exact ⟨by omega, by omega⟩
theorem W_cat {a : Nat} {i h : Int} {L1 : Int} (h1 : W n es a i h L1) : ∀ {b : Nat} {j L2 : Int}, W n es b h j L2 → W n es (a + b) i j (L1 + L2)
  | 0, j, L2, h2 => by
    obtain ⟨_, _, rfl, rfl⟩ := h2
    rw [Int.add_zero]
    exact h1
  | b + 1, j, L2, h2 => by
    obtain ⟨x, w, L', hw, hm, rfl⟩ := h2
    exact ⟨x, w, L1 + L', W_cat h1 hw, hm, by omega⟩
theorem W_high {h : Int → Int} (hh : ∀ e ∈ es, h e.b - h e.a ≤ e.w) : ∀ {k : Nat} {i j L : Int}, W n es k i j L → h j - h i ≤ L
  | 0, i, j, L, hw => by
    obtain ⟨_, _, rfl, rfl⟩ := hw
    omega
  | k + 1, i, j, L, hw => by
    obtain ⟨x, w, L', hw, hm, rfl⟩ := hw
    have h1 := W_high hh hw
    have h2 : h j - h x ≤ w := hh _ hm
    omega
theorem W_one {i j L : Int} (ok : EdOk n es) (h : (⟨i, j, L⟩ : Ed) ∈ es) : W n es 1 i j L := by
  obtain ⟨h1, h2, _⟩ := ok _ h
  exact ⟨i, L, 0, ⟨h1, h2, rfl, rfl⟩, h, by omega⟩
end

theorem noNeg {N : Nat} {es : List Ed} (h : hasRound N es = false) {k : Nat} (h1 : 1 ≤ k) (h2 : k ≤ N) {i L : Int} (ok : EdOk N es) (hw : W N es k i i L) : 0 ≤ L := by
  have hr := (W_range ok hw).1
  obtain ⟨L', hv, hle⟩ := (isMin_iter N es k).le i i L hw
  have h3 : negM N (iterM N es k) = false := by
    have := List.any_eq_false.mp h (k - 1) (List.mem_range.mpr (by omega))
    rw [show k - 1 + 1 = k by omega] at this
    simpa using this
  have h4 := List.any_eq_false.mp h3 i.toNat (List.mem_range.mpr (by omega))
  rw [show ((i.toNat : Nat) : Int) = i by omega] at h4
  unfold negAt at h4
  rw [hv] at h4
  simp only [decide_eq_true_eq] at h4
  omega
theorem yesNeg {N : Nat} {es : List Ed} (h : hasRound N es = true) : ∃ k i L, W N es k i i L ∧ L < 0 := by
  obtain ⟨t, _, h1⟩ := List.any_eq_true.mp h
  obtain ⟨i, _, h2⟩ := List.any_eq_true.mp h1
  unfold negAt at h2
  cases hv : valM (iterM N es (t + 1)) ((i : Int), (i : Int)) with
  | none => rw [hv] at h2; cases h2
  | some L =>
    rw [hv] at h2
    exact ⟨t + 1, i, L, (isMin_iter N es (t + 1)).snd _ _ _ hv, of_decide_eq_true h2⟩

/-- a walk of as many edges as events can be made shorter -/
theorem pigeon {N : Nat} {es : List Ed} (hN : N ≤ 3) (h1 : 1 ≤ N) (hr : hasRound N es = false) (ok : EdOk N es) {i j L : Int} (hw : W N es N i j L) : ∃ k L', k < N ∧ L' ≤ L ∧ W N es k i j L' := by
  have nn := fun {k : Nat} (a : 1 ≤ k) (b : k ≤ N) {i L : Int} (w : W N es k i i L) => noNeg hr a b ok w
  have r0 := (W_range ok hw).1
  have hcase : N = 1 ∨ N = 2 ∨ N = 3 := by omega
  rcases hcase with e | e | e
  · subst e
    have rj := (W_range ok hw).2
    obtain rfl : j = i := by omega
    have := nn (k := 1) (by omega) (by omega) hw
    exact ⟨0, 0, by omega, this, r0.1, r0.2, rfl, rfl⟩
  · subst e
    obtain ⟨x, w2, L1, hw1, m2, rfl⟩ := hw
    have s2 := W_one ok m2
    have rx := (W_range ok hw1).2
    have rj := (W_range ok s2).2
    have hc : i = x ∨ i = j ∨ x = j := by omega
    rcases hc with e | e | e
    · subst e
      have := nn (k := 1) (by omega) (by omega) hw1
      exact ⟨1, w2, by omega, by omega, s2⟩
    · subst e
      have := nn (k := 2) (by omega) (by omega) (W_cat hw1 s2)
      exact ⟨0, 0, by omega, by omega, r0.1, r0.2, rfl, rfl⟩
    · subst e
      have := nn (k := 1) (by omega) (by omega) s2
      exact ⟨1, L1, by omega, by omega, hw1⟩
  · subst e
    obtain ⟨y, w3, L2, hw2, m3, rfl⟩ := hw
    have s3 := W_one ok m3
    obtain ⟨x, w2, L1, hw1, m2, rfl⟩ := id hw2
    have s2 := W_one ok m2
    have rx := (W_range ok hw1).2
    have ry := (W_range ok hw2).2
    have rj := (W_range ok s3).2
    have s23 := W_cat s2 s3
    have hc : i = x ∨ i = y ∨ i = j ∨ x = y ∨ x = j ∨ y = j := by omega
    rcases hc with e | e | e | e | e | e
    · subst e
      have := nn (k := 1) (by omega) (by omega) hw1
      exact ⟨2, w2 + w3, by omega, by omega, s23⟩
    · subst e
      have := nn (k := 2) (by omega) (by omega) hw2
      exact ⟨1, w3, by omega, by omega, s3⟩
    · subst e
      have := nn (k := 3) (by omega) (by omega) (W_cat hw2 s3)
      exact ⟨0, 0, by omega, by omega, r0.1, r0.2, rfl, rfl⟩
    · subst e
      have := nn (k := 1) (by omega) (by omega) s2
      exact ⟨2, L1 + w3, by omega, by omega, W_cat hw1 s3⟩
    · subst e
      have := nn (k := 2) (by omega) (by omega) s23
      exact ⟨1, L1, by omega, by omega, hw1⟩
    · subst e
      have := nn (k := 1) (by omega) (by omega) s3
      exact ⟨2, L1 + w2, by omega, by omega, hw2⟩

/-- the tight bound that the program finds -/
def bnd (N : Nat) (es : List Ed) (i j : Int) : Option Int := valM (finalM N es) (i, j)
section
variable {N : Nat} {es : List Ed}
theorem bnd_val {i j L : Int} (h : bnd N es i j = some L) : ∃ q, q ≤ N - 1 ∧ W N es q i j L := (isMin_best N es (N - 1)).snd i j L h
theorem bnd_diag (hr : hasRound N es = false) (ok : EdOk N es) {i : Int} (h0 : 0 ≤ i) (h1 : i < N) : bnd N es i i = some 0 := by
  obtain ⟨L, hv, hle⟩ := (isMin_best N es (N - 1)).le i i 0 ⟨0, by omega, h0, h1, rfl, rfl⟩
  obtain ⟨q, hq, hw⟩ := bnd_val (N := N) (es := es) hv
  have hL : L = 0 := by
    cases q with
    | zero => exact hw.2.2.2
    | succ q =>
      have := noNeg hr (by omega) (by omega) ok hw
      omega
  rw [← hL]
  exact hv
theorem bnd_all (hN : N ≤ 3) (hr : hasRound N es = false) (ok : EdOk N es) : ∀ {k : Nat} {i j L : Int}, W N es k i j L → ∃ L', bnd N es i j = some L' ∧ L' ≤ L
  | 0, i, j, L, h => by
    obtain ⟨h0, h1, rfl, rfl⟩ := h
    exact ⟨0, bnd_diag hr ok h0 h1, Int.le_refl _⟩
  | k + 1, i, j, L, h => by
    have hi := (W_range ok h).1
    obtain ⟨x, w, L', hw, hm, rfl⟩ := h
    obtain ⟨L1, hv, hle⟩ := bnd_all hN hr ok hw
    obtain ⟨q, hq, hw1⟩ := bnd_val hv
    have s := W_cat hw1 (W_one ok hm)
    by_cases hc : q + 1 ≤ N - 1
    · obtain ⟨L2, h3, h4⟩ := (isMin_best N es (N - 1)).le i j _ ⟨q + 1, hc, s⟩
      exact ⟨L2, h3, by omega⟩
    · have e : q + 1 = N := by omega
      rw [e] at s
      obtain ⟨r, L3, h5, h6, h7⟩ := pigeon hN (by omega) hr ok s
      obtain ⟨L2, h3, h4⟩ := (isMin_best N es (N - 1)).le i j _ ⟨r, by omega, h7⟩
      exact ⟨L2, h3, by omega⟩
theorem bnd_tri (hN : N ≤ 3) (hr : hasRound N es = false) (ok : EdOk N es) {i j k a b : Int} (h1 : bnd N es i j = some a) (h2 : bnd N es j k = some b) : ∃ c, bnd N es i k = some c ∧ c ≤ a + b := by
  obtain ⟨p, _, w1⟩ := bnd_val h1
  obtain ⟨q, _, w2⟩ := bnd_val h2
  exact bnd_all hN hr ok (W_cat w1 w2)
theorem bnd_edge (hN : N ≤ 3) (hr : hasRound N es = false) (ok : EdOk N es) {i a : Int} {e : Ed} (he : e ∈ es) (h1 : bnd N es i e.a = some a) : ∃ c, bnd N es i e.b = some c ∧ c ≤ a + e.w := by
  obtain ⟨p, _, w1⟩ := bnd_val h1
  exact bnd_all hN hr ok (W_cat w1 (W_one ok he))
theorem bnd_size (hN : N ≤ 3) (ok : EdOk N es) {i j L : Int} (h : bnd N es i j = some L) : -8 ≤ L ∧ L ≤ 8 := by
  obtain ⟨q, hq, w⟩ := bnd_val h
  have := W_len ok w
  omega
end

/-! ### heights -/
def at_ (row : List Int) (i : Int) : Int := row.getD i.toNat 0
def okLo (r : Rl) (d : Int) : Bool := match r.lo with
  | some l => decide (l ≤ d)
  | none => true
def okHi (r : Rl) (d : Int) : Bool := match r.hi with
  | some l => decide (d ≤ l)
  | none => true
def okR (row : List Int) (r : Rl) : Bool := okLo r (at_ row r.e - at_ row r.s) && okHi r (at_ row r.e - at_ row r.s)
def holdB (rs : List Rl) (row : List Int) : Bool := rs.all (okR row)
theorem holdB_iff {rs : List Rl} {row : List Int} : holdB rs row = true ↔ ∀ e ∈ edges rs, at_ row e.b - at_ row e.a ≤ e.w := by
  unfold holdB edges
  rw [List.all_eq_true]
  constructor
  · intro h e he
    obtain ⟨r, hr, hm⟩ := List.mem_flatMap.mp he
    have q := h r hr
    unfold okR at q
    rw [Bool.and_eq_true] at q
    rcases List.mem_append.mp hm with hm | hm
    · unfold edHi at hm
      unfold okHi at q
      cases hh : r.hi with
      | none => rw [hh] at hm; cases hm
      | some x =>
        rw [hh] at hm q
        obtain rfl := List.mem_singleton.mp hm
        exact of_decide_eq_true q.2
    · unfold edLo at hm
      unfold okLo at q
      cases hh : r.lo with
      | none => rw [hh] at hm; cases hm
      | some x =>
        rw [hh] at hm q
        obtain rfl := List.mem_singleton.mp hm
        have := of_decide_eq_true q.1
        show at_ row r.s - at_ row r.e ≤ 0 - x
        omega
  · intro h r hr
    unfold okR
    rw [Bool.and_eq_true]
    constructor
    · unfold okLo
      cases hh : r.lo with
      | none => rfl
      | some x =>
        have := h ⟨r.e, r.s, 0 - x⟩ (List.mem_flatMap.mpr ⟨r, hr, List.mem_append.mpr (.inr (by unfold edLo; rw [hh]; exact List.mem_cons_self))⟩)
        have q : at_ row r.s - at_ row r.e ≤ 0 - x := this
        exact decide_eq_true (by omega)
    · unfold okHi
      cases hh : r.hi with
      | none => rfl
      | some x =>
        have := h ⟨r.s, r.e, x⟩ (List.mem_flatMap.mpr ⟨r, hr, List.mem_append.mpr (.inl (by unfold edHi; rw [hh]; exact List.mem_cons_self))⟩)
        exact decide_eq_true this

def rg19 : List Int := (List.range 19).map fun (i : Nat) => -9 + (i : Int)
theorem mem_rg19 {t : Int} : t ∈ rg19 ↔ -9 ≤ t ∧ t ≤ 9 := by
  unfold rg19
  rw [List.mem_map]
  constructor
  · rintro ⟨i, hi, rfl⟩
    have := List.mem_range.mp hi
    omega
  · rintro ⟨h1, h2⟩
    exact ⟨(t + 9).toNat, List.mem_range.mpr (by omega), by omega⟩
def moreRow (z : Int) (k : Nat) (row : List Int) : List (List Int) := if (k : Int) = z then [row ++ [0]] else rg19.map fun t => row ++ [t]
def allRows (z : Int) : Nat → List (List Int)
  | 0 => [[]]
  | k + 1 => (allRows z k).flatMap (moreRow z k)
theorem len_more (z : Int) (k : Nat) (row : List Int) : (moreRow z k row).length ≤ 19 := by
  unfold moreRow
  split
  · simp
  · simp [rg19]
theorem at_app_lt {row : List Int} {t i : Int} (h0 : 0 ≤ i) (h : i < row.length) : at_ (row ++ [t]) i = at_ row i := by
  unfold at_
  rw [List.getD_eq_getElem?_getD, List.getD_eq_getElem?_getD, List.getElem?_append_left (by omega)]
theorem at_app_eq {row : List Int} {t : Int} : at_ (row ++ [t]) row.length = t := by
  unfold at_
  rw [List.getD_eq_getElem?_getD, Int.toNat_natCast, List.getElem?_append_right (Nat.le_refl _)]
  simp
theorem mem_all {z : Int} : ∀ {k : Nat} {row : List Int}, row ∈ allRows z k ↔ row.length = k ∧ ∀ i : Int, 0 ≤ i → i < k → (-9 ≤ at_ row i ∧ at_ row i ≤ 9) ∧ (i = z → at_ row i = 0)
  | 0, row => by
    unfold allRows
    constructor
    · intro h
      obtain rfl := List.mem_singleton.mp h
      exact ⟨rfl, fun i h0 h1 => by omega⟩
    · rintro ⟨h, _⟩
      exact List.mem_singleton.mpr (List.eq_nil_of_length_eq_zero h)
  | k + 1, row => by
    unfold allRows
    rw [List.mem_flatMap]
    constructor
    · rintro ⟨r, hr, hm⟩
      obtain ⟨h1, h2⟩ := (mem_all (k := k)).mp hr
      obtain ⟨t, ht, ht2, rfl⟩ : ∃ t : Int, (-9 ≤ t ∧ t ≤ 9) ∧ ((k : Int) = z → t = 0) ∧ row = r ++ [t] := by
        unfold moreRow at hm
        by_cases e : (k : Int) = z
        · rw [if_pos e] at hm
          exact ⟨0, by omega, fun _ => rfl, List.mem_singleton.mp hm⟩
        · rw [if_neg e] at hm
          obtain ⟨t, ht, e2⟩ := List.mem_map.mp hm
          exact ⟨t, mem_rg19.mp ht, fun q => absurd q e, e2.symm⟩
      refine ⟨by simp [h1], fun i h0 hi => ?_⟩
      by_cases e : i = k
      · subst e
        have e3 : at_ (r ++ [t]) (k : Int) = t := by rw [← h1]; exact at_app_eq
        rw [e3]
        exact ⟨ht, ht2⟩
      · rw [at_app_lt h0 (by omega)]
        exact h2 i h0 (by omega)
    · rintro ⟨h1, h2⟩
      have hne : row ≠ [] := fun e => by rw [e] at h1; cases h1
      have hd : row.dropLast ++ [row.getLast hne] = row := List.dropLast_concat_getLast hne
      have hl : row.dropLast.length = k := by rw [List.length_dropLast, h1]; rfl
      generalize row.dropLast = r at hd hl
      generalize row.getLast hne = t at hd
      subst hd
      have hk := h2 k (by omega) (by omega)
      have e3 : at_ (r ++ [t]) (k : Int) = t := by rw [← hl]; exact at_app_eq
      rw [e3] at hk
      refine ⟨r, (mem_all (k := k)).mpr ⟨hl, fun i h0 hi => ?_⟩, ?_⟩
      · have := h2 i h0 (by omega)
        rw [at_app_lt h0 (by omega)] at this
        exact this
      · unfold moreRow
        by_cases e : (k : Int) = z
        · rw [if_pos e, hk.2 e]
          exact List.mem_singleton.mpr rfl
        · rw [if_neg e]
          exact List.mem_map.mpr ⟨t, mem_rg19.mpr hk.1, rfl⟩

def kept (N : Nat) (z : Int) (rs : List Rl) : List (List Int) := (allRows z N).filter (holdB rs)
/-- a row by its places -/
def mkRow (N : Nat) (f : Int → Int) : List Int := (List.range N).map fun (i : Nat) => f i
theorem at_mk {N : Nat} {f : Int → Int} {i : Int} (h0 : 0 ≤ i) (h1 : i < N) : at_ (mkRow N f) i = f i := by
  unfold at_ mkRow
  rw [List.getD_eq_getElem?_getD, List.getElem?_map, List.getElem?_range (by omega)]
  show f ((i.toNat : Nat) : Int) = f i
  rw [show ((i.toNat : Nat) : Int) = i by omega]
theorem mem_kept {N : Nat} {z : Int} {rs : List Rl} {f : Int → Int} (ok : EdOk N (edges rs)) (hz : f z = 0) (hb : ∀ i : Int, 0 ≤ i → i < N → -9 ≤ f i ∧ f i ≤ 9) (he : ∀ e ∈ edges rs, f e.b - f e.a ≤ e.w) : mkRow N f ∈ kept N z rs := by
  refine List.mem_filter.mpr ⟨mem_all.mpr ⟨by simp [mkRow], fun i h0 h1 => ?_⟩, holdB_iff.mpr fun e hm => ?_⟩
  · rw [at_mk h0 h1]
    exact ⟨hb i h0 h1, fun e => by rw [e]; exact hz⟩
  · obtain ⟨a1, a2, b1, b2, _⟩ := ok e hm
    rw [at_mk b1 b2, at_mk a1 a2]
    exact he e hm

section
variable {N : Nat} {z : Int} {rs : List Rl}
theorem kept_hold {row : List Int} (h : row ∈ kept N z rs) : ∀ e ∈ edges rs, at_ row e.b - at_ row e.a ≤ e.w := holdB_iff.mp (List.mem_filter.mp h).2
theorem kept_zero {row : List Int} (h0 : 0 ≤ z) (h1 : z < N) (h : row ∈ kept N z rs) : at_ row z = 0 := ((mem_all.mp (List.mem_filter.mp h).1).2 z h0 h1).2 rfl
theorem kept_len {row : List Int} (h : row ∈ kept N z rs) : row.length = N := (mem_all.mp (List.mem_filter.mp h).1).1
theorem kept_none (h : hasRound N (edges rs) = true) : kept N z rs = [] := by
  obtain ⟨k, i, L, hw, hl⟩ := yesNeg h
  cases e : kept N z rs with
  | nil => rfl
  | cons row r =>
    have hm : row ∈ kept N z rs := by rw [e]; exact List.mem_cons_self
    have := W_high (kept_hold hm) hw
    omega
theorem kept_le {row : List Int} {j a : Int} (h0 : 0 ≤ z) (h1 : z < N) (h : row ∈ kept N z rs) (hb : bnd N (edges rs) z j = some a) : at_ row j ≤ a := by
  obtain ⟨q, _, hw⟩ := bnd_val hb
  have := W_high (kept_hold h) hw
  rw [kept_zero h0 h1 h] at this
  omega
theorem kept_ge {row : List Int} {j a : Int} (h0 : 0 ≤ z) (h1 : z < N) (h : row ∈ kept N z rs) (hb : bnd N (edges rs) j z = some a) : 0 - a ≤ at_ row j := by
  obtain ⟨q, _, hw⟩ := bnd_val hb
  have := W_high (kept_hold h) hw
  rw [kept_zero h0 h1 h] at this
  omega
variable (hN : N ≤ 3) (hr : hasRound N (edges rs) = false) (ok : EdOk N (edges rs)) (h0 : 0 ≤ z) (h1 : z < N)
include hN hr ok h0 h1
/-- the greatest heights -/
theorem ahead_kept (hk : ∀ j : Int, 0 ≤ j → j < N → (bnd N (edges rs) z j).isSome = true) : mkRow N (fun j => (bnd N (edges rs) z j).getD 0) ∈ kept N z rs := by
  refine mem_kept ok ?_ (fun i a b => ?_) fun e he => ?_
  · show (bnd N (edges rs) z z).getD 0 = 0
    rw [bnd_diag hr ok h0 h1]; rfl
  · obtain ⟨L, hL⟩ := Option.isSome_iff_exists.mp (hk i a b)
    show -9 ≤ (bnd N (edges rs) z i).getD 0 ∧ (bnd N (edges rs) z i).getD 0 ≤ 9
    rw [hL]
    have := bnd_size hN ok hL
    show -9 ≤ L ∧ L ≤ 9
    omega
  · obtain ⟨a1, a2, b1, b2, _⟩ := ok e he
    obtain ⟨L, hL⟩ := Option.isSome_iff_exists.mp (hk e.a a1 a2)
    obtain ⟨c, hc, hle⟩ := bnd_edge hN hr ok he hL
    show (bnd N (edges rs) z e.b).getD 0 - (bnd N (edges rs) z e.a).getD 0 ≤ e.w
    rw [hL, hc]
    show c - L ≤ e.w
    omega
/-- the least heights -/
theorem behind_kept (hk : ∀ j : Int, 0 ≤ j → j < N → (bnd N (edges rs) j z).isSome = true) : mkRow N (fun j => 0 - (bnd N (edges rs) j z).getD 0) ∈ kept N z rs := by
  refine mem_kept ok ?_ (fun i a b => ?_) fun e he => ?_
  · show 0 - (bnd N (edges rs) z z).getD 0 = 0
    rw [bnd_diag hr ok h0 h1]; rfl
  · obtain ⟨L, hL⟩ := Option.isSome_iff_exists.mp (hk i a b)
    show -9 ≤ 0 - (bnd N (edges rs) i z).getD 0 ∧ 0 - (bnd N (edges rs) i z).getD 0 ≤ 9
    rw [hL]
    have := bnd_size hN ok hL
    show -9 ≤ 0 - L ∧ 0 - L ≤ 9
    omega
  · obtain ⟨a1, a2, b1, b2, _⟩ := ok e he
    obtain ⟨L, hL⟩ := Option.isSome_iff_exists.mp (hk e.b b1 b2)
    obtain ⟨M, hM⟩ := Option.isSome_iff_exists.mp (hk e.a a1 a2)
    obtain ⟨p, _, w1⟩ := bnd_val hL
    obtain ⟨c, hc, hle⟩ := bnd_all hN hr ok (W_cat (W_one ok he) w1)
    show (0 - (bnd N (edges rs) e.b z).getD 0) - (0 - (bnd N (edges rs) e.a z).getD 0) ≤ e.w
    rw [hL, hM]
    rw [hM] at hc
    have e2 : M = c := Option.some.inj hc
    show (0 - L) - (0 - M) ≤ e.w
    omega
/-- each difference between -/
theorem between {j a b t : Int} (j0 : 0 ≤ j) (j1 : j < N) (ha : ∀ i : Int, 0 ≤ i → i < N → (bnd N (edges rs) z i).isSome = true) (hb : ∀ i : Int, 0 ≤ i → i < N → (bnd N (edges rs) i z).isSome = true)
    (hA : bnd N (edges rs) z j = some a) (hB : bnd N (edges rs) j z = some b) (t0 : 0 - b ≤ t) (t1 : t ≤ a) : ∃ row ∈ kept N z rs, at_ row j = t := by
  have hj : ∀ i : Int, 0 ≤ i → i < N → ∃ c, bnd N (edges rs) j i = some c := fun i i0 i1 => by
    obtain ⟨d, hd⟩ := Option.isSome_iff_exists.mp (ha i i0 i1)
    obtain ⟨c, hc, _⟩ := bnd_tri hN hr ok hB hd
    exact ⟨c, hc⟩
  let f : Int → Int := fun i => min ((bnd N (edges rs) z i).getD 0) (t + (bnd N (edges rs) j i).getD 0)
  have hf : ∀ {i x y : Int}, bnd N (edges rs) z i = some x → bnd N (edges rs) j i = some y → f i = min x (t + y) := fun {i x y} h h' => by
    show min ((bnd N (edges rs) z i).getD 0) (t + (bnd N (edges rs) j i).getD 0) = min x (t + y)
    rw [h, h']; rfl
  refine ⟨mkRow N f, mem_kept ok ?_ (fun i i0 i1 => ?_) fun e he => ?_, ?_⟩
  · rw [hf (bnd_diag hr ok h0 h1) hB]
    omega
  · obtain ⟨x, hx⟩ := Option.isSome_iff_exists.mp (ha i i0 i1)
    obtain ⟨y, hy⟩ := hj i i0 i1
    obtain ⟨v, hv⟩ := Option.isSome_iff_exists.mp (hb i i0 i1)
    obtain ⟨c, hc, hle⟩ := bnd_tri hN hr ok hy hv
    rw [hB] at hc
    have e2 : b = c := Option.some.inj hc
    have s1 := bnd_size hN ok hx
    have s2 := bnd_size hN ok hv
    rw [hf hx hy]
    omega
  · obtain ⟨a1, a2, b1, b2, _⟩ := ok e he
    obtain ⟨x, hx⟩ := Option.isSome_iff_exists.mp (ha e.a a1 a2)
    obtain ⟨y, hy⟩ := hj e.a a1 a2
    obtain ⟨x', hx', lx⟩ := bnd_edge hN hr ok he hx
    obtain ⟨y', hy', ly⟩ := bnd_edge hN hr ok he hy
    rw [hf hx hy, hf hx' hy']
    omega
  · rw [at_mk j0 j1, hf hA (bnd_diag hr ok j0 j1)]
    omega
end
def thereM (N : Nat) (z : Int) (rs : List Rl) (j : Int) : List Int := (kept N z rs).map fun row => at_ row j
def rgI (a b : Int) : List Int := (List.range (b - a).toNat).map fun (i : Nat) => a + (i : Int)
theorem rg_eq : ∀ a b : Fin 18, rg19.filter (fun t => decide (((a.val : Int) - 9 ≤ t) ∧ t ≤ (b.val : Int) - 8)) = if ((a.val : Int) - 9 ≤ (b.val : Int) - 8) then rgI ((a.val : Int) - 9) ((b.val : Int) - 8 + 1) else [] := by
  decide +kernel
theorem filter_rg {p : Int → Bool} {a b : Int} (ha : -9 ≤ a) (ha' : a ≤ 8) (hb : -8 ≤ b) (hb' : b ≤ 9) (hab : a ≤ b) (hp : ∀ t, -9 ≤ t → t ≤ 9 → (p t = true ↔ (a ≤ t ∧ t ≤ b))) : rg19.filter p = rgI a (b + 1) := by
  have h := rg_eq ⟨(a + 9).toNat, by omega⟩ ⟨(b + 8).toNat, by omega⟩
  have e1 : (((a + 9).toNat : Nat) : Int) - 9 = a := by omega
  have e2 : (((b + 8).toNat : Nat) : Int) - 8 = b := by omega
  simp only [e1, e2] at h
  rw [if_pos hab] at h
  rw [← h]
  apply List.filter_congr
  intro t ht
  have hm := mem_rg19.mp ht
  have := hp t hm.1 hm.2
  by_cases q : a ≤ t ∧ t ≤ b
  · rw [decide_eq_true q, this.mpr q]
  · rw [decide_eq_false q]
    cases hpt : p t with
    | false => rfl
    | true => exact absurd (this.mp hpt) q
theorem there_rg {N : Nat} {z : Int} {rs : List Rl} (hN : N ≤ 3) (hr : hasRound N (edges rs) = false) (ok : EdOk N (edges rs)) (h0 : 0 ≤ z) (h1 : z < N) {j a b : Int} (j0 : 0 ≤ j) (j1 : j < N)
    (ha : ∀ i : Int, 0 ≤ i → i < N → (bnd N (edges rs) z i).isSome = true) (hb : ∀ i : Int, 0 ≤ i → i < N → (bnd N (edges rs) i z).isSome = true) (hA : bnd N (edges rs) z j = some a) (hB : bnd N (edges rs) j z = some b) :
    rg19.filter (fun t => decide (t ∈ thereM N z rs j)) = rgI (0 - b) (a + 1) := by
  have s1 := bnd_size hN ok hA
  have s2 := bnd_size hN ok hB
  have hab : 0 - b ≤ a := by
    obtain ⟨c, hc, hle⟩ := bnd_tri hN hr ok hA hB
    rw [bnd_diag hr ok h0 h1] at hc
    have := Option.some.inj hc
    omega
  refine filter_rg (by omega) (by omega) (by omega) (by omega) hab fun t _ _ => ?_
  rw [decide_eq_true_eq]
  unfold thereM
  rw [List.mem_map]
  constructor
  · rintro ⟨row, hm, rfl⟩
    exact ⟨kept_ge h0 h1 hm hB, kept_le h0 h1 hm hA⟩
  · rintro ⟨t0, t1⟩
    exact between hN hr ok h0 h1 j0 j1 ha hb hA hB t0 t1
end Ab

/-! Two rules that the hand layer lacks: a dict comprehension whose keys are tuples; enumerate over a tuple. -/
namespace Ab
open PySem PySem.Spec PyProof.Rows L2

/-! ### a dict comprehension whose keys are tuples -/
section
variable {X : Cx}
/-- the store of one turn -/
theorem put_tup {pins : List (Addr × Obj)} {σ : L2.St} {H : Hp} {s : Shared} {E : Value → Shared → Prop} {D b : Addr} {kvs : List (List Key × V)} {k : List Key} {z : V} {u r : Value} {Q : Unit → Shared → Prop}
    (hu : X.A.units < cLine) (I : Inv X pins σ H s) (hD : H D = some (.dT kvs)) (hb : H b = some (.tup (k.map kV))) (hz : kvs.length < sizeLine) (ru : RelV (.ref b) u) (rr : RelV z r)
    (h : ∀ s', Inv X pins σ (upd H D (.dT (putK kvs k z))) s' → Q () s') : wpAny (model X.prog X.w) X.A (dictSet D u r) Q E s := by
  have eu : u = Value.ref b := ru
  rw [eu]
  obtain ⟨h0, hs, xs, rel, dd⟩ := dt_of I.hok hD
  have h1 : xs.length ≤ sizeLine := by
    have e := Paired.length rel
    omega
  have h2 : (putK kvs k z).length ≤ sizeLine := Nat.le_trans (length_putK kvs k z) hz
  refine wpAny_dictSet_heap (knd := tupleKind (mixKind X.prog X.w)) (hsz := h1) hu (key_of I.hok hb) dd fun h' dn sb => h _ ?_
  obtain ⟨ob, es, ep, a1, a2, a3, a4, _, a5⟩ := dn
  have tups : ∀ c ys, H c = some (.tup ys) → upd H D (.dT (putK kvs k z)) c = some (.tup ys) := fun c ys e => by
    have ne : c ≠ D := fun q => by
      rw [q, hD] at e
      cases e
    rw [upd_ne ne, e]
  exact d_write I (by rw [hD]; exact True.intro) sb ⟨ob, a1⟩ ⟨h2, hs, _, (rel.put k hb rr).keeps tups, ob, es, ep, a1, a2, a3, a4, a5⟩

/-- {k: v for target in iter}: the keys tuples of ints and texts -/
def tDcT (wi : TI) (g : TG) (tk tv : TE) (vs : List Nat) : TE := fun σ H Q => wi σ H fun J H1 => ∀ D, H1 D = none →
  ∃ W : Nat → Nat → Hp → Prop, (∃ m, W 0 m (upd H1 D (.dT []))) ∧ ∀ i m H2, W i m H2 →
    (J.stop i H2 ∧ Q (.ref D) H2) ∨
    (J.go i H2 ∧ ∃ Nx : Hp → Prop, (∀ H3, Nx H3 → ∃ m', m' < m ∧ W (i + 1) m' H3) ∧
      ∀ x H3, J.yld i H2 x H3 → g x (wipe σ vs) H3 fun σ2 H4 => wipe σ2 vs = wipe σ vs ∧
        tk σ2 H4 fun y H5 => tv σ2 H5 fun z H6 =>
          ∃ kvs k b, y = .ref b ∧ H6 b = some (.tup (k.map kV)) ∧ H6 D = some (.dT kvs) ∧ kvs.length < sizeLine ∧ Nx (upd H6 D (.dT (putK kvs k z))))

/-- the block of such a comprehension, from its iterator on -/
theorem dcT_block {pins : List (Addr × Obj)} {s2 : Shared} {σ : L2.St} {H2 : Hp} {kx vx tg iter : Expr} {scope : Scope} {own : List (Str × Nat)} {pos : Pos} {g : TG} {tk tv : TE} {R : Result → Shared → Prop}
    {J : It} {fp : List Addr} {it : Addr} {tn : Nat → Heap → Prop} {D : Addr} {W : Nat → Nat → Hp → Prop} {Qd : Hp → Prop} {m0 : Nat}
    (hu : X.A.units < cLine) (hc : X.calm = true) (hN : X.N.Nodup) (I : Inv X pins σ (upd H2 D (.dT [])) s2) (ok : BlkOk X.N X.env.scope scope own)
    (hg : ∀ (s : Shared) (H : Hp) (C : Addr) (cl : List (Str × Addr)) (fp : List Addr), PG (X.blk s H scope (compEnvC scope cl C X.env) fp) tg g)
    (hk : ∀ (s : Shared) (H : Hp) (C : Addr) (cl : List (Str × Addr)) (fp : List Addr), PE (X.blk s H scope (compEnvC scope cl C X.env) fp) kx tk)
    (he : ∀ (s : Shared) (H : Hp) (C : Addr) (cl : List (Str × Addr)) (fp : List Addr), PE (X.blk s H scope (compEnvC scope cl C X.env) fp) vx tv)
    (T : Turn X.prog X.w X.K tg J fp it tn) (st : tn 0 s2.heap) (hf : ∀ b ∈ fp, FpOk X pins (upd H2 D (.dT [])) b ∧ b < s2.heap.objs.size)
    (w0 : W 0 m0 (upd H2 D (.dT [])))
    (turn : ∀ i m H3, W i m H3 → (J.stop i H3 ∧ Qd H3) ∨ (J.go i H3 ∧ ∃ Nx : Hp → Prop, (∀ H4, Nx H4 → ∃ m', m' < m ∧ W (i + 1) m' H4) ∧
      ∀ x H4, J.yld i H3 x H4 → g x (wipe σ (own.map (·.2))) H4 fun σ2 H5 => wipe σ2 (own.map (·.2)) = wipe σ (own.map (·.2)) ∧
        tk σ2 H5 fun y H6 => tv σ2 H6 fun z H7 => ∃ kvs k b, y = .ref b ∧ H7 b = some (.tup (k.map kV)) ∧ H7 D = some (.dT kvs) ∧ kvs.length < sizeLine ∧ Nx (upd H7 D (.dT (putK kvs k z)))))
    (fin : ∀ s' m H', Inv X pins σ H' s' → Qd H' → s'.heap.Ns s2.heap.objs.size m → FpOk X pins H' s2.heap.objs.size → R (.ok .next) s') :
    codeAny (model X.prog X.w) X.A (.compStart (.DictComp kx vx [⟨tg, iter, [], 0⟩] scope pos) 0 (.ref it) (.ref D) (compEnvC scope (cellsFrom (s2.heap.objs.size + 1) scope.names (cloFrom X.env.cells scope.names [])) s2.heap.objs.size X.env)) R
      { s2 with heap := pushCells (s2.heap.push { cls := .type "dict", data := .dict #[] }) scope.names } := by
  have J0 := block_start I ok hN hf
  have hg1 := hg s2 (upd H2 D (.dT [])) s2.heap.objs.size (cellsFrom (s2.heap.objs.size + 1) scope.names (cloFrom X.env.cells scope.names [])) fp
  have hk1 := hk s2 (upd H2 D (.dT [])) s2.heap.objs.size (cellsFrom (s2.heap.objs.size + 1) scope.names (cloFrom X.env.cells scope.names [])) fp
  have he1 := he s2 (upd H2 D (.dT [])) s2.heap.objs.size (cellsFrom (s2.heap.objs.size + 1) scope.names (cloFrom X.env.cells scope.names [])) fp
  have free0 : ∀ b ∈ fp, upd H2 D (.dT []) b = none := fun b hb => (hf b hb).1.1
  have st1 : tn 0 (pushCells (s2.heap.push { cls := .type "dict", data := .dict #[] }) scope.names) :=
    T.keep _ _ _ st fun b _ o e => pushCells_keeps _ _ _ _ (Heap.get?_push_of_some _ e)
  generalize hce : compEnvC scope (cellsFrom (s2.heap.objs.size + 1) scope.names (cloFrom X.env.cells scope.names [])) s2.heap.objs.size X.env = ce at J0 hg1 hk1 he1 ⊢
  have hL : ce.locals = s2.heap.objs.size := by
    rw [← hce]
    rfl
  generalize upd H2 D (.dT []) = HD at I J0 hg1 hk1 he1 w0 free0 hf
  generalize hst : ({ s2 with heap := pushCells (s2.heap.push { cls := .type "dict", data := .dict #[] }) scope.names } : Shared) = sB at J0 ⊢
  have st2 : tn 0 sB.heap := by
    rw [← hst]
    exact st1
  have mine : ∀ {σ' : L2.St} {H' : Hp} {s' : Shared}, Inv (X.blk s2 HD scope ce fp) [] σ' H' s' → (∀ b ∈ fp, H' b = none) → ∀ b ∈ fp, FpOk (X.blk s2 HD scope ce fp) [] H' b := by
    intro σ' H' s' I' hn b hb
    refine ⟨hn b hb, (I'.ok.exf b hb).1, I'.ok.exfs b hb, .inl hb, fun x c e => (I'.ok.exf b hb).2 x c e, fun p hp => ?_⟩
    have hp' : p ∈ ([] : List (Addr × Obj)) ++ [] := hp
    simp at hp'
  refine codeAny_compStart_dict ?_ (T.self X.A 0 _ _ _ st2 ?_)
  all_goals
    refine compLoop_anyD (fun m s' => ∃ i H', Inv (X.blk s2 HD scope ce fp) [] (wipe σ (own.map (·.2))) H' s' ∧ tn i s'.heap ∧ (∀ b ∈ fp, H' b = none) ∧ W i m H') ?_ m0 ⟨0, HD, J0, st2, free0, w0⟩
    rintro m sA ⟨i, HA, IA, tA, fA, wA⟩
    rcases turn i m HA wA with ⟨stop, qd⟩ | ⟨go, Nx, hNx, step⟩
    · refine thnF (T.done (X.blk s2 HD scope ce fp) rfl rfl rfl hc i [] sA _ HA (fun _ _ => False) IA (mine IA fA) tA stop) fun r sE ⟨hr, IE⟩ => ?_
      rw [hr]
      obtain ⟨mm, ns, _⟩ := IE.loc
      have ns' : sE.heap.Ns ce.locals mm := ns
      have nf : HA ce.locals = none := IE.free
      rw [hL] at ns' nf
      have back : Inv X pins σ HA sE := I.call' (ch := fp) IE.os IE.base IE.hok IE.bare fun b hb => by
        obtain ⟨_, p2, _, p4, p5, p6⟩ := (hf b hb).1
        exact ⟨p4, p2, p5, p6⟩
      exact fin sE mm HA back qd ns' (I.fpOk (Nat.le_refl _) nf)
    · refine thnF (T.item (X.blk s2 HD scope ce fp) rfl rfl rfl hc i [] sA _ HA (fun _ _ => False) IA (mine IA fA) tA go) fun r sE ⟨u, hr, hE⟩ => ?_
      rw [hr]
      refine thnF hE fun _ sF ⟨x, HF, IF, rF, yF, tF, nF⟩ => ?_
      have IP := IF.pinned (mine IF nF) (T.obj _ _ tF)
      refine thnF (hg1.run _ sF _ HF x u _ IP rF (step x HF yF)) fun _ sG ⟨σG, HG, IG, hw, qG⟩ => ?_
      have close : ∀ {s' : Shared} {H' : Hp}, Inv (X.blk s2 HD scope ce fp) ([] ++ pinsAt fp sF.heap) σG H' s' → Nx H' →
          ∃ m', m' < m ∧ ∃ i H', Inv (X.blk s2 HD scope ce fp) [] (wipe σ (own.map (·.2))) H' s' ∧ tn i s'.heap ∧ (∀ b ∈ fp, H' b = none) ∧ W i m' H' := by
        intro s' H' I' nx
        obtain ⟨m', hm, w'⟩ := hNx H' nx
        have pinned : ∀ b ∈ fp, ∀ o, sF.heap.get? b = some o → s'.heap.get? b = some o ∧ H' b = none := fun b hb o e => by
          have z := I'.pin (b, o) (List.mem_append_right _ (List.mem_append_right _ (mem_pinsAt hb e)))
          exact ⟨z.1, z.2.1⟩
        have hlen : (wipe σ (own.map (·.2))).length = σG.length := by
          rw [← hw, wipe_length]
        refine ⟨m', hm, i + 1, H', (I'.unpinned (pins := [])).weak hlen (fun j v e => ?_), T.keep _ _ _ tF fun b hb o e => (pinned b hb o e).1, fun b hb => ?_, w'⟩
        · rw [← hw] at e
          exact (wipe_some e).1
        · obtain ⟨o, e, _⟩ := T.obj _ _ tF b hb
          exact (pinned b hb o e).2
      have none_asked : PTs (X.blk s2 HD scope ce fp) [] tYes := pts_nil
      refine thnF (none_asked.run _ sG σG HG (fun c H' => c = true ∧ H' = HG) IG ⟨rfl, rfl⟩) fun c sH ⟨HH, IH, hc1, hc2⟩ => ?_
      subst hc1 hc2
      show wpAny _ _ (eval kx ce) _ _ _
      refine thnF (hk1.run _ sH σG _ _ IH qG) fun kv sI ⟨y, HI, II, ry, qI⟩ => ?_
      refine thnF (he1.run _ sI σG HI _ II qI) fun vv sJ ⟨z, HJ, IJ, rz, kvs, k, b, ey, hb, hD, hz, nx⟩ => ?_
      subst ey
      exact put_tup (X := X.blk s2 HD scope ce fp) hu IJ hD hb hz ry rz fun sK IK => close IK nx
/-- the whole comprehension; what is done with the dict is told by Rr -/
theorem dcT_core {pins : List (Addr × Obj)} {s : Shared} {σ : L2.St} {H : Hp} {Q : VK} {kx vx tg iter : Expr} {scope : Scope} {own : List (Str × Nat)} {pos pos' : Pos} {wi : TI} {g : TG} {tk tv : TE} {use : Option (Value → Sem Unit)} {Qf : Value → Shared → Prop}
    (hu : X.A.units < cLine) (hc : X.calm = true) (hN : X.N.Nodup) (I : Inv X pins σ H s) (hi : PI X tg iter wi) (ok : BlkOk X.N X.env.scope scope own)
    (hg : ∀ (s : Shared) (H : Hp) (C : Addr) (cl : List (Str × Addr)) (fp : List Addr), PG (X.blk s H scope (compEnvC scope cl C X.env) fp) tg g)
    (hk : ∀ (s : Shared) (H : Hp) (C : Addr) (cl : List (Str × Addr)) (fp : List Addr), PE (X.blk s H scope (compEnvC scope cl C X.env) fp) kx tk)
    (he : ∀ (s : Shared) (H : Hp) (C : Addr) (cl : List (Str × Addr)) (fp : List Addr), PE (X.blk s H scope (compEnvC scope cl C X.env) fp) vx tv)
    (hs : ∀ x, foldedSetIterable iter X.env x = pure x) (h : tDcT wi g tk tv (own.map (·.2)) σ H Q)
    (Rr : ∀ D C s' m H', Inv X pins σ H' s' → Q (.ref D) H' → s'.heap.Ns C m → FpOk X pins H' C → compPost (model X.prog X.w) X.A X.xe use Qf (.ref D) C (.ok .next) s') :
    wpAny (model X.prog X.w) X.A (comprehension (.DictComp kx vx [⟨tg, iter, [], 0⟩] scope pos) scope X.env pos' newDict false (eval iter X.env) use) Qf X.xe s := by
  have captured : ∀ y ∈ scope.names, y.2 = .free → ∃ c, X.env.cells.lookup y.1 = some c := fun y hy e => I.ok.has _ (ok.free y hy e)
  refine wpAny_comprehension_free (use := use) rfl hs (closure_ok captured) ok.kind (fun y hy e => by rw [ok.uniq y hy, e]) ?_
  refine thn (hi.run pins s σ H _ I h) fun xv s1 hx => thn hx fun itv s2 ⟨it, fp, tn, J, H2, e, I2, T, st2, f2, q⟩ => ?_
  subst e
  refine wpAny_newObj_type (newEnv_comp ?_)
  have hDn : H2 s2.heap.objs.size = none := I2.hok.fresh (Nat.le_refl _)
  obtain ⟨W, ⟨m0, w0⟩, turn⟩ := q _ hDn
  have new : ObjOk X.prog X.w (upd H2 s2.heap.objs.size (.dT [])) (s2.heap.push { cls := .type "dict", data := .dict #[] }) s2.heap.objs.size (.dT []) := dt_empty s2.heap I2.big
  have I3 : Inv X pins σ (upd H2 s2.heap.objs.size (.dT [])) { s2 with heap := s2.heap.push { cls := .type "dict", data := .dict #[] } } :=
    I2.laid (t' := s2.toks) (fun b o e => Heap.get?_push_of_some _ e) (Nat.le_refl _) new
  have old : ∀ b ∈ fp, b < s2.heap.objs.size := fun b hb => by
    obtain ⟨o, e, _⟩ := T.obj _ _ st2 b hb
    exact Heap.lt_size e
  refine dcT_block (s2 := { s2 with heap := s2.heap.push { cls := .type "dict", data := .dict #[] } }) hu hc hN I3 ok hg hk he T (T.keep _ _ _ st2 fun b _ o e => Heap.get?_push_of_some _ e) (fun b hb => ⟨⟨?_, (f2 b hb).2⟩, ?_⟩) w0 turn fun s' m H' I' q' hn f => Rr _ _ s' m H' I' q' hn f
  · rw [upd_ne (Nat.ne_of_lt (old b hb))]
    exact (f2 b hb).1
  · show b < (s2.heap.push { cls := .type "dict", data := .dict #[] }).objs.size
    rw [Heap.size_push]
    exact Nat.lt_succ_of_lt (old b hb)
/-- {k: v for target in iter} as a value -/
theorem pe_dcT {kx vx tg iter : Expr} {scope : Scope} {own : List (Str × Nat)} {pos : Pos} {wi : TI} {g : TG} {tk tv : TE} (hu : X.A.units < cLine) (hc : X.calm = true) (hN : X.N.Nodup) (hi : PI X tg iter wi) (ok : BlkOk X.N X.env.scope scope own)
    (hg : ∀ (s : Shared) (H : Hp) (C : Addr) (cl : List (Str × Addr)) (fp : List Addr), PG (X.blk s H scope (compEnvC scope cl C X.env) fp) tg g)
    (hk : ∀ (s : Shared) (H : Hp) (C : Addr) (cl : List (Str × Addr)) (fp : List Addr), PE (X.blk s H scope (compEnvC scope cl C X.env) fp) kx tk)
    (he : ∀ (s : Shared) (H : Hp) (C : Addr) (cl : List (Str × Addr)) (fp : List Addr), PE (X.blk s H scope (compEnvC scope cl C X.env) fp) vx tv)
    (hs : ∀ x, foldedSetIterable iter X.env x = pure x := by intro _; rfl) :
    PE X (.DictComp kx vx [⟨tg, iter, [], 0⟩] scope pos) (tDcT wi g tk tv (own.map (·.2))) := by
  refine ⟨fun pins s σ H Q I h => ?_⟩
  rw [arm_eval_DictComp]
  refine dcT_core hu hc hN I hi ok hg hk he hs h fun D C s' m H' I' q hn f => ⟨m, hn, fun h'' sb => ?_⟩
  obtain ⟨f0, f1, _, f3, f4, f5⟩ := f
  exact ⟨.ref D, H', I'.turned (t' := s'.toks) (fun b o hb e => (sb.2 b hb).trans e) f0 f1 f3 f4 f5, rfl, q⟩
/-- y = {k: v for target in iter}, y a local of the def -/
theorem ps_setDcT {i : Nat} {y : Str} {py : Pos} {kx vx tg iter : Expr} {scope : Scope} {own : List (Str × Nat)} {pos spos : Pos} {wi : TI} {g : TG} {tk tv : TE} (hu : X.A.units < cLine) (hc : X.calm = true) (hN : X.N.Nodup)
    (hy : X.N[i]? = some y) (hl : X.env.scope.names.lookup y = some .local) (sw : swapsWith (.DictComp kx vx [⟨tg, iter, [], 0⟩] scope pos) (some (.Name y py)) spos.line X.env = pure true)
    (hi : PI X tg iter wi) (ok : BlkOk X.N X.env.scope scope own)
    (hg : ∀ (s : Shared) (H : Hp) (C : Addr) (cl : List (Str × Addr)) (fp : List Addr), PG (X.blk s H scope (compEnvC scope cl C X.env) fp) tg g)
    (hk : ∀ (s : Shared) (H : Hp) (C : Addr) (cl : List (Str × Addr)) (fp : List Addr), PE (X.blk s H scope (compEnvC scope cl C X.env) fp) kx tk)
    (he : ∀ (s : Shared) (H : Hp) (C : Addr) (cl : List (Str × Addr)) (fp : List Addr), PE (X.blk s H scope (compEnvC scope cl C X.env) fp) vx tv)
    (hs : ∀ x, foldedSetIterable iter X.env x = pure x := by intro _; rfl) :
    PS X (.Assign [.Name y py] (.DictComp kx vx [⟨tg, iter, [], 0⟩] scope pos) spos) (tAsg (tDcT wi g tk tv (own.map (·.2))) (gName i)) := by
  refine ⟨fun pins s σ H D I h => ?_⟩
  rw [exec_Assign_Name_used _ _ _ _ sw]
  have h' : tDcT wi g tk tv (own.map (·.2)) σ H (fun x H1 => gName i x σ H1 D.nx) := h
  refine wpAny_bind (wpAny_standAt (wpAny_bind ?_))
  show wpAny _ X.A (do let _ ← comprehension (.DictComp kx vx [⟨tg, iter, [], 0⟩] scope pos) scope X.env (firstIterPos [⟨tg, iter, [], 0⟩] pos) newDict false (eval iter X.env) (some (assign (.Name y py) X.env))) _ _ s
  refine wpAny_bind (thn (dcT_core (Qf := fun _ sE => SP X pins D .next sE) hu hc hN I hi ok hg hk he hs h' fun L C sE m HE IE q hn f => ?_) fun _ sE hq => wpAny_pure (wpAny_pure hq))
  show wpAny _ _ (assign (.Name y py) X.env (.ref L)) _ _ _
  obtain ⟨f0, f1, _, f3, f4, f5⟩ := f
  refine wpAny_assign_Name (store_ok2 (v := V.ref L) IE hN hy (.inl hl) rfl (fun sF IF ⟨a, sb, ha⟩ => ?_) (.inr hl))
  have apart : C ≠ a := fun e => by
    rcases ha with z | z
    · exact f1 (e.trans z)
    · exact f4 y a z e.symm
  exact ⟨m, hn.sameBut sb apart, fun hG sb3 => ⟨_, HE, IF.turned (t' := sF.toks) (fun b o hb e => (sb3.2 b hb).trans e) f0 f1 f3 f4 f5, q⟩⟩
theorem swap_dict {kx vx : Expr} {gs : List Comprehension} {scope : Scope} {pos py : Pos} {y : Str} {l : Nat} {env : Env} (hk : env.scope.kind = .function) (hy : env.scope.names.lookup y = some .local) (hl : (py.line == pos.line) = true)
    (ha : (scope.names.any fun (n, k) => n == y && (k == .local || k == .cell)) = false) : swapsWith (.DictComp kx vx gs scope pos) (some (.Name y py)) l env = pure true := by
  have k1 : env.kindOf y = some .local := hy
  have k2 : env.blockKind = .function := by
    unfold Env.blockKind
    rw [hk]
    rfl
  unfold swapsWith
  simp only [k1, k2, ha, Expr.pos, hl]
  rfl
end
/-- the reading of such a comprehension: Pv by the turn and the heap -/
theorem dcT_it {J : It} {n : Nat} {G : Hp → Prop} {Y : Nat → Hp → V → Hp → Prop} (w : Walk J n G Y) {g : TG} {tk tv : TE} {vs : List Nat} {σ : L2.St} {H1 : Hp} {D : Addr} {Qd : Hp → Prop} (Pv : Nat → Hp → Prop) (h0 : Pv 0 (upd H1 D (.dT [])))
    (hG : ∀ i H, i ≤ n → Pv i H → G H)
    (hs : ∀ i x H H', i < n → Pv i H → Y i H x H' → g x (wipe σ vs) H' fun σ2 H2 => wipe σ2 vs = wipe σ vs ∧
      tk σ2 H2 fun y H3 => tv σ2 H3 fun z H4 => ∃ kvs k b, y = .ref b ∧ H4 b = some (.tup (k.map kV)) ∧ H4 D = some (.dT kvs) ∧ kvs.length < sizeLine ∧ Pv (i + 1) (upd H4 D (.dT (putK kvs k z))))
    (hd : ∀ H, Pv n H → Qd H) :
    ∃ W : Nat → Nat → Hp → Prop, (∃ m, W 0 m (upd H1 D (.dT []))) ∧ ∀ i m H2, W i m H2 →
      (J.stop i H2 ∧ Qd H2) ∨ (J.go i H2 ∧ ∃ Nx : Hp → Prop, (∀ H3, Nx H3 → ∃ m', m' < m ∧ W (i + 1) m' H3) ∧
        ∀ x H3, J.yld i H2 x H3 → g x (wipe σ vs) H3 fun σ2 H4 => wipe σ2 vs = wipe σ vs ∧
          tk σ2 H4 fun y H5 => tv σ2 H5 fun z H6 => ∃ kvs k b, y = .ref b ∧ H6 b = some (.tup (k.map kV)) ∧ H6 D = some (.dT kvs) ∧ kvs.length < sizeLine ∧ Nx (upd H6 D (.dT (putK kvs k z)))) := by
  refine ⟨fun i m H => m = n - i ∧ i ≤ n ∧ Pv i H, ⟨n, rfl, Nat.zero_le _, h0⟩, ?_⟩
  rintro i m H2 ⟨em, hi, p⟩
  by_cases hlt : i < n
  · refine .inr ⟨w.goes i H2 hlt (hG i H2 hi p), Pv (i + 1), fun H3 p3 => ⟨n - (i + 1), by omega, rfl, hlt, p3⟩, fun x H3 y => ?_⟩
    exact hs i x H2 H3 hlt p (w.yields i H2 x H3 hlt (hG i H2 hi p) y)
  · obtain rfl : i = n := by omega
    exact .inl ⟨w.stops H2 (hG i H2 hi p), hd H2 p⟩

/-! ### enumerate over a tuple -/
set_option maxHeartbeats 4000000 in
theorem meets_enum1 {v : Value} {ob : Obj} {G : Heap → Prop} (B : Begins v ob G) :
    Meets (Builtin.«enumerate.__new__» ⟨[.type "enumerate", v], []⟩) (fun _ R s => G s.heap ∧ R (.ok (.ret (.ref (s.heap.push ob).objs.size)))
      { s with heap := (s.heap.push ob).push { cls := .type "enumerate", data := .fields #[.none, .bool false, .ref s.heap.objs.size, rawInt 0, .none, .none] } }) :=
  .of_wp fun prog w A R s h => by
    obtain ⟨hp, gens, dr, tk, os⟩ := s
    obtain ⟨hG, hR⟩ := h
    have hsub := sub_enumerate
    have start : ∀ {A' : Around} {E Q : Value → Shared → Prop}, Q (.ref hp.objs.size) ⟨hp.push ob, gens, dr, tk, os⟩ → wpAny (model prog w) A' (pyIter v) Q E ⟨hp, gens, dr, tk, os⟩ :=
      fun q => B.iter prog w _ _ ⟨hp, gens, dr, tk, os⟩ _ hG q
    wp_walk using start
    refine wpAny_stack_any fun st => wpAny_pure ?_
    split
    · rename_i c _ _ _ _ _
      cases (c == Value.type "enumerate") <;> (wp_walk using start; exact ⟨_, rfl, hR⟩)
    · wp_walk using start
      exact ⟨_, rfl, hR⟩
section
variable {prog : Program} {w : World} {A : Around} {E : Value → Shared → Prop} {s : Shared}
theorem call_enum_tup {t : Addr} {items : Array Value} {Q : Value → Shared → Prop} (ht : s.heap.IsTuple t items)
    (h : ∀ h', IsEnum h' (s.heap.objs.size + 1) s.heap.objs.size 0 .none → h'.IsTupleIter s.heap.objs.size t 0 → (∀ b o, s.heap.get? b = some o → h'.get? b = some o) → Q (.ref (s.heap.objs.size + 1)) { s with heap := h' }) :
    wpAny (model prog w) A (call (.type "enumerate") [.ref t]) Q E s := by
  refine callType_new F.called_enumerate (by decide) (F.typeCall_enumerate_1 _) (F.newCall_enumerate_1 _) (fun obj => F.args_object_init_2 obj _) F.entry_enumerate_new
    (meets_enum1 (begins_tuple t items)) ⟨ht, ?_⟩
  have sz : (s.heap.push { cls := .type "tuple_iterator", data := .fields #[.ref t, .int 0 0] }).objs.size = s.heap.objs.size + 1 := Heap.size_push ..
  have en : IsEnum ((s.heap.push { cls := .type "tuple_iterator", data := .fields #[.ref t, .int 0 0] }).push { cls := .type "enumerate", data := .fields #[.none, .bool false, .ref s.heap.objs.size, rawInt 0, .none, .none] })
      (s.heap.objs.size + 1) s.heap.objs.size 0 .none := by
    rw [← sz]
    exact Heap.get?_push_size _ rfl
  show _ ∧ _
  rw [sz]
  exact ⟨⟨_, en, rfl⟩, h _ en ⟨_, Heap.get?_push_of_some _ (Heap.get?_push_size _ rfl), rfl, rfl⟩ fun b o e => Heap.get?_push_of_some _ (Heap.get?_push_of_some _ e)⟩
end
/-- the tuple at a, each item in a new pair -/
def Iet (K : PySem.W.Frag) (a : Addr) : It :=
  ⟨fun i H => ∃ (xs : List V) (x : V), SqT K H a xs ∧ xs[i]? = some x,
   fun i H v H' => ∃ T x, v = .ref T ∧ H T = none ∧ H' = upd H T (.tup [.int (i : Nat), x]) ∧ ∀ xs, SqT K H a xs → xs[i]? = some x,
   fun i H => ∃ xs : List V, SqT K H a xs ∧ i = xs.length⟩
theorem iter_apart {h : Heap} {it t : Addr} {i : Nat} {items : Array Value} (h1 : h.IsTupleIter it t i) (h2 : h.IsTuple t items) : t ≠ it := by
  intro e
  obtain ⟨o, a1, a2, _⟩ := h1
  obtain ⟨o', b1, b2, _⟩ := h2
  rw [e, a1] at b1
  cases b1
  rw [a2] at b2
  revert b2
  decide
theorem turn_enum_tup {P : Program} {w : World} {K : PySem.W.Frag} {elts : List Expr} {kk : Nat} {tpos : Pos} (a e it : Addr) :
    Turn P w K (.Tuple elts kk tpos) (Iet K a) [e, it] e (fun i h => (∃ old, IsEnum h e it ((i : Nat) : Int) old) ∧ h.IsTupleIter it a i ∧ e ≠ it) where
  mem := by simp
  obj := by
    rintro i h ⟨⟨old, he⟩, ⟨o, ho, hc, hd⟩, _⟩ b hb
    rcases List.mem_cons.mp hb with z | z
    · rw [z]
      exact ⟨_, he, fun v q => nomatch q⟩
    · rw [List.mem_singleton.mp z]
      exact ⟨o, ho, fun v q => by rw [hd] at q; cases q⟩
  keep := by
    rintro i h h' ⟨⟨old, he⟩, hi, hne⟩ k
    exact ⟨⟨old, k e (by simp) _ he⟩, hi.at fun o q => k it (by simp) o q, hne⟩
  item := by
    intro X hP hw hK hc i pins s σ H E I hf st hg
    subst hP hw hK
    obtain ⟨⟨old, he⟩, hit, hne⟩ := st
    obtain ⟨xs, x, hq, hx⟩ := hg
    obtain ⟨its, rv, p, _⟩ := I.tuple hq
    have pt : s.heap.IsTuple a its.toArray := p
    have apart := iter_apart hit pt
    have lt1 : e < s.heap.objs.size := Heap.lt_size he
    have lt2 : it < s.heap.objs.size := by
      obtain ⟨_, q, _⟩ := hit
      exact Heap.lt_size q
    have lt3 : i < its.toArray.size := by
      obtain ⟨u, hu, _⟩ := rv.get hx
      obtain ⟨q, _⟩ := List.getElem?_eq_some_iff.mp hu
      simpa using q
    have ne3 : e ∉ [it, a] := by
      intro m
      rcases List.mem_cons.mp m with z | z
      · exact hne z
      · obtain ⟨o', b1, b2, _⟩ := pt
        rw [← List.mem_singleton.mp z] at b1
        rw [show s.heap.get? e = some _ from he] at b1
        cases b1
        have b3 : Value.type "enumerate" = Value.type "tuple" := b2
        exact absurd b3 (by decide)
    refine wpAny_pyNext_enum_itemC (Draws.tuple (A := X.A.in1) (I.ok.hd hc) it a apart its.toArray) he ⟨hit, pt⟩ lt3 hne ne3 fun u h' tk hu ho hit' hT hsz hk => ?_
    have hu' : its[i]? = some u := by simpa using hu
    obtain ⟨u2, hu2, ru⟩ := rv.get hx
    rw [hu'] at hu2
    cases hu2
    refine ⟨_, rfl, wpAny_letOwnedTupleGo_enum (s := { s with heap := h', toks := tk + 1 }) ho fun h'' he' sb => ?_⟩
    have hT2 : h''.get? s.heap.objs.size = some { cls := .type "tuple", data := .seq #[.int i tk, u] } := (sb.2 _ (Nat.ne_of_gt lt1)).trans hT
    have new : ObjOk X.prog X.w (upd H s.heap.objs.size (.tup [.int (i : Nat), x])) h'' s.heap.objs.size (.tup [.int (i : Nat), x]) :=
      ⟨by show 2 ≤ sizeLine; decide, [.int i tk, u], .cons ⟨_, rfl⟩ (.cons ru .nil), ⟨_, hT2, rfl, _, rfl⟩⟩
    have stays : ∀ b o, b ∉ [e, it] → s.heap.get? b = some o → h''.get? b = some o := fun b o hb q => by
      have b1 : b ≠ e := fun z => hb (by simp [z])
      have b2 : b ≠ it := fun z => hb (by simp [z])
      exact (sb.2 b b1).trans (hk b o b1 b2 q)
    have I1 := I.turnedNew (t' := tk + 1) stays hf (Nat.le_refl _) new
    refine ⟨.ref s.heap.objs.size, _, I1, rfl, ⟨_, x, rfl, I.hok.fresh (Nat.le_refl _), rfl, fun ys hy => by rw [I.tuple_inj hy hq]; exact hx⟩, ⟨⟨u, ?_⟩, hit'.1.at fun o q => (sb.2 it (Ne.symm hne)).trans q, hne⟩, fun b hb => ?_⟩
    · have e1 : ((i + 1 : Nat) : Int) = (i : Int) + 1 := by omega
      rw [e1]
      exact he'
    · have lt : b < s.heap.objs.size := by
        rcases List.mem_cons.mp hb with z | z
        · rw [z]
          exact lt1
        · rw [List.mem_singleton.mp z]
          exact lt2
      rw [upd_ne (Nat.ne_of_lt lt)]
      exact (hf b hb).1
  done := by
    intro X hP hw hK hc i pins s σ H E I hf st hg
    subst hP hw hK
    obtain ⟨⟨old, he⟩, hit, hne⟩ := st
    obtain ⟨xs, hq, hx⟩ := hg
    obtain ⟨its, rv, p, _⟩ := I.tuple hq
    have pt : s.heap.IsTuple a its.toArray := p
    obtain ⟨f0, f1, f2, f3, f4, f5⟩ := hf it (by simp)
    have en : its.toArray.size = i := by
      rw [List.size_toArray, hx]
      exact rv.length.symm
    have D := Draws.tuple (prog := X.prog) (w := X.w) (A := X.A.in1) (I.ok.hd hc) it a (iter_apart hit pt) its.toArray
    rw [en] at D
    exact wpAny_pyNext_enum_endD D he ⟨hit, pt⟩ fun h' eb => ⟨rfl, I.turned (t' := s.toks) (fun b o hb q => eb b o hb q) f0 f1 f3 f4 f5⟩
  self := fun A i s Q E st h => by
    obtain ⟨⟨_, he⟩, _⟩ := st
    exact wpAny_pyIter_enum he h
def iEnT (K : PySem.W.Frag) (ta : TA) : TI := fun σ H R => ta σ H fun vs H1 => ∃ a xs, vs = [.ref a] ∧ SqT K H1 a xs ∧ R (Iet K a) H1
theorem pi_enum_tup {X : Cx} {e : Expr} {ta : TA} {p pos tpos : Pos} {elts : List Expr} {kk : Nat} (hg : Gl X "enumerate") (hm : X.mg "enumerate" = none) (ha : PA X [e] ta)
    (hs : starEach [e] X.env = [(false, eval e X.env)] := by rfl) : PI X (.Tuple elts kk tpos) (.Call (.Name "enumerate" p) [e] [] pos) (iEnT X.K ta) := by
  refine ⟨fun pins s σ H R I h => ?_⟩
  refine Call_ (ld_blt I hg hm boot_enumerate (PyProof.Rows.callWith_type1 (thn (ha.run pos pins s σ H _ I h) fun us s1 ⟨vs, H1, I1, r1, a, xs, ev, hq, q⟩ => ?_) hs rfl))
  subst ev
  obtain ⟨u, eu, ru⟩ := vals1 r1
  have eu2 : u = Value.ref a := ru
  rw [eu, eu2]
  obtain ⟨its, rv, pt, _⟩ := I1.tuple hq
  refine call_enum_tup (show s1.heap.IsTuple a its.toArray from pt) fun h' he hit hk => wpAny_pyIter_enum he ?_
  refine ⟨s1.heap.objs.size + 1, [s1.heap.objs.size + 1, s1.heap.objs.size], _, _, H1, rfl, I1.kept (t' := s1.toks) hk, turn_enum_tup a _ _, ⟨⟨.none, he⟩, hit, Nat.succ_ne_self _⟩, fun b hb => ?_, q⟩
  have hle : s1.heap.objs.size ≤ b := by
    rcases List.mem_cons.mp hb with z | z
    · rw [z]
      exact Nat.le_succ _
    · rw [List.mem_singleton.mp z]
      exact Nat.le_refl _
  exact I1.fpOk hle (I1.hok.fresh hle)
theorem walk_enum_tup {K : PySem.W.Frag} {a : Addr} {xs : List V} : Walk (Iet K a) xs.length (fun H => SqT K H a xs) (YPair (fun i => some (.int (i : Nat))) (fun i => xs[i]?)) := by
  refine ⟨fun i _ hi q => ⟨xs, xs[i], q, List.getElem?_eq_getElem hi⟩, fun _ q => ⟨xs, q, rfl⟩, fun i H v H' _ q y => ?_⟩
  obtain ⟨T, x, h1, h2, h3, h4⟩ := y
  exact ⟨T, .int (i : Nat), x, h1, h2, h3, rfl, h4 xs q⟩
end Ab

/-! The text by places; what stands where; how the data lie. -/
namespace Ab
open PySem PySem.Spec PyProof.Rows L2

def top (i : Nat) : Stmt := PySem.Challenge.pw_allbide_k11_whole_greatest_differences.main.body.getD i (.Pass ⟨0, 0, 0, 0⟩)

/-! ### a def of the text, under its name -/
structure Here (K : PySem.W.Frag) (mg : Str → Option Value) (x : Str) (st : Stmt) (ps : List Str) : Prop where
  ex : ∃ (f : Addr) (fd : FuncData), Fun K x x st f fd ∧ mg x = some (.ref f) ∧ Binds K fd ps []
structure Cal (P : Program) (w : World) (K : PySem.W.Frag) (mg : Str → Option Value) (base : Heap) (k : Nat) (x : Str) (sp : Sp) : Prop where
  ex : ∃ (f : Addr) (fd : FuncData) (ps : List Str), FnOk P w K mg base CX0 k f fd ps sp ∧ mg x = some (.ref f) ∧ PySem.W.keepIn K (.ref f) = true ∧ Binds K fd ps []
theorem Here.cal {P : Program} {w : World} {K : PySem.W.Frag} {mg : Str → Option Value} {base : Heap} {k : Nat} {x : Str} {sp : Sp} {st : Stmt} {ps : List Str} (h : Here K mg x st ps)
    (ok : ∀ f fd, Fun K x x st f fd → FnOk P w K mg base CX0 k f fd ps sp) : Cal P w K mg base k x sp := by
  obtain ⟨f, fd, F, m, b⟩ := h.ex
  exact ⟨f, fd, ps, ok f fd F, m, F.kp, b⟩
section
variable {X : Cx} {k j : Nat} {x : Str} {sp : Sp} {p pos : Pos} {e : Expr} {es : List Expr} {t : TA}
theorem pe_k (c : Cal X.prog X.w X.K X.mg X.base k x sp) (hr : Room j X.A) (hk : k ≤ j) (hg : Gl X x) (ha : PA X (e :: es) t)
    (hdb : (x == ("__debug__" : Str)) = false := by decide) (he : starEach (e :: es) X.env = (false, eval e X.env) :: starEach es X.env := by rfl) (hpl : (backTo pos (starEach es X.env)).any (·.1) = false := by rfl) :
    PE X (.Call (.Name x p) (e :: es) [] pos) (tCall sp [] E0 t) := by
  obtain ⟨f, fd, ps, F, hm, kp, b⟩ := c.ex
  exact pe_call F (hr.mono hk) hg hm kp b .nil pass0 ha hdb he hpl
end

/-- what the module's names hold -/
structure Txt (K : PySem.W.Frag) (mg : Str → Option Value) : Prop where
  hBetween : Here K mg "is_between" (top 8) ["value", "low", "high"]
  hSide : Here K mg "is_side" (top 9) ["value"]
  hRule : Here K mg "is_rule" (top 10) ["value", "size"]
  hNet : Here K mg "is_net" (top 11) ["value"]
  hEdges : Here K mg "edges_of" (top 12) ["net"]
  hCheck : Here K mg "check_net" (top 14) ["net"]
  hLonger : Here K mg "longer_walks" (top 15) ["net", "walks"]
  hFirst : Here K mg "first_round" (top 16) ["net"]
  hShort : Here K mg "shortest_walks" (top 17) ["net"]
  hWith : Here K mg "with_walk" (top 18) ["best", "pair", "value"]
  hBounds : Here K mg "bounds_of" (top 19) ["net"]
  hCan : Here K mg "can_keep" (top 20) ["net"]
  hKept : Here K mg "check_kept" (top 21) ["net"]
  hTight : Here K mg "tight" (top 22) ["net"]
  hStream : Here K mg "_law_stream" (top 24) ["_law_script"]
  hNext : Here K mg "_law_next" (top 25) ["_law_stream_here", "_law_many"]
  hDraw : Here K mg "_law_net" (top 28) ["_law_stream_here", "_law_most", "_law_rules", "_law_far"]
  hHold : Here K mg "_law_hold" (top 33) ["_law_net_here", "_law_heights"]
  hAll : Here K mg "_law_all" (top 37) ["_law_size", "_law_zero"]
  events : ∃ t, mg "MOST_EVENTS" = some (.int 6 t)
  rules : ∃ t, mg "MOST_RULES" = some (.int 12 t)
  far : ∃ t, mg "FARTHEST" = some (.int 100 t)
  bIsi : mg "isinstance" = none
  bInt : mg "int" = none
  bBool : mg "bool" = none
  bTup : mg "tuple" = none
  bList : mg "list" = none
  bLen : mg "len" = none
  bAll : mg "all" = none
  bAny : mg "any" = none
  bEnum : mg "enumerate" = none
  bRange : mg "range" = none
  bMin : mg "min" = none
  bMax : mg "max" = none
  bAbs : mg "abs" = none

/-! ### the data -/
def oV : Option Int → V
  | some i => .int i
  | none => .non
theorem oV_none {o : Option Int} : decide (oV o = .non) = o.isNone := by
  cases o <;> rfl
/-- a rule's items -/
def rlV (r : Rl) : List V := [.int r.s, .int r.e, oV r.lo, oV r.hi]
/-- a rule that the law draws for n events -/
structure RlOk (n : Int) (r : Rl) : Prop where
  s0 : 0 ≤ r.s
  s1 : r.s < n
  e0 : 0 ≤ r.e
  e1 : r.e < n
  ne : r.s ≠ r.e
  lo : ∀ x, r.lo = some x → -4 ≤ x ∧ x ≤ 4
  hi : ∀ x, r.hi = some x → -4 ≤ x ∧ x ≤ 4
  one : r.lo ≠ none ∨ r.hi ≠ none
/-- all that the law's net is -/
structure NetOk (n : Nat) (rs : List Rl) : Prop where
  n1 : 1 ≤ n
  n3 : n ≤ 3
  len : rs.length ≤ 4
  all : ∀ r ∈ rs, RlOk n r
theorem NetOk.ed {n : Nat} {rs : List Rl} (h : NetOk n rs) : EdOk n (edges rs) := by
  intro e he
  obtain ⟨r, hr, hm⟩ := List.mem_flatMap.mp he
  have q := h.all r hr
  rcases List.mem_append.mp hm with hm | hm
  · unfold edHi at hm
    cases hh : r.hi with
    | none => rw [hh] at hm; cases hm
    | some x =>
      rw [hh] at hm
      obtain rfl := List.mem_singleton.mp hm
      have := q.hi x hh
      exact ⟨q.s0, q.s1, q.e0, q.e1, this.1, this.2⟩
  · unfold edLo at hm
    cases hh : r.lo with
    | none => rw [hh] at hm; cases hm
    | some x =>
      rw [hh] at hm
      obtain rfl := List.mem_singleton.mp hm
      have := q.lo x hh
      exact ⟨q.e0, q.e1, q.s0, q.s1, by show -4 ≤ 0 - x; omega, by show 0 - x ≤ 4; omega⟩
/-- the tuple of the rules lies at t -/
def RsAt (H : Hp) (t : Addr) (rs : List Rl) : Prop := ∃ as : List Addr, H t = some (.tup (as.map V.ref)) ∧ Paired (fun p r => H p = some (.tup (rlV r))) as rs
/-- the net lies at a -/
def NetAt (H : Hp) (a : Addr) (n : Nat) (rs : List Rl) : Prop := ∃ t, H a = some (.tup [.int n, .ref t]) ∧ RsAt H t rs
theorem paired_imp {α β : Type} {F G : α → β → Prop} (h : ∀ a b, F a b → G a b) : ∀ {l : List α} {m : List β}, Paired F l m → Paired G l m
  | _, _, .nil => .nil
  | _, _, .cons q t => .cons (h _ _ q) (paired_imp h t)
theorem RsAt.same {H H' : Hp} {t : Addr} {rs : List Rl} (h : RsAt H t rs) (s : Same H H') : RsAt H' t rs := by
  obtain ⟨as, h1, h2⟩ := h
  exact ⟨as, s _ _ h1, paired_imp (fun p r q => s _ _ q) h2⟩
theorem NetAt.same {H H' : Hp} {a : Addr} {n : Nat} {rs : List Rl} (h : NetAt H a n rs) (s : Same H H') : NetAt H' a n rs := by
  obtain ⟨t, h1, h2⟩ := h
  exact ⟨t, s _ _ h1, h2.same s⟩
theorem RsAt.len {H : Hp} {t : Addr} {rs : List Rl} {as : List Addr} (h : Paired (fun p r => H p = some (.tup (rlV r))) as rs) : as.length = rs.length := Paired.length h
theorem same_new {H : Hp} {p : Addr} {o : HO} (h : H p = none) : Same H (upd H p o) := fun b u e => by
  rw [upd_ne (ne_of_none e h)]
  exact e
/-- a thing made since H0 may change -/
theorem same_mut {H0 H : Hp} {p : Addr} {o : HO} (s : Same H0 H) (h : H0 p = none) : Same H0 (upd H p o) := fun b u e => by
  rw [upd_ne (ne_of_none e h)]
  exact s b u e

/-! ### the short words of the terms -/
section
variable {X : Cx}
theorem pe_ty {x : Str} {n : String} {pos : Pos} (hg : Gl X x) (hm : X.mg x = none) (hv : bootBuiltins x = some (.type n)) (hn : x ≠ "__name__" := by decide) (hd : (x == ("__debug__" : Str)) = false := by decide) : PE X (.Name x pos) (tC (.ty n)) :=
  pe_bltn (v := .ty n) hg hm hv rfl hn hd
/-- a comprehension without a test -/
theorem yes_in {σ : L2.St} {H : Hp} {A B : Hp → Prop} (h : A H) : tYes σ H (fun b H3 => if b = true then A H3 else B H3) := by
  show if true = true then A H else B H
  rw [if_pos rfl]
  exact h
/-- the rules for items, the written part named (within a comprehension's block) -/
theorem ixT (K : PySem.W.Frag) {X : Cx} (h : X.K = K := by rfl) : IxR X (rIxT K) := by
  subst h
  exact ix_tup
theorem ixL (K : PySem.W.Frag) {X : Cx} (h : X.K = K := by rfl) : IxR X (rIxL K) := by
  subst h
  exact ix_list
end
end Ab

/-! How edges and dicts of walks lie in the heap. -/
namespace Ab
open PySem PySem.Spec PyProof.Rows L2

/-! ### what stays -/
/-- all but what stands at D -/
def SameX (D : Addr) (H H' : Hp) : Prop := ∀ b o, b ≠ D → H b = some o → H' b = some o
theorem SameX.refl {D : Addr} {H : Hp} : SameX D H H := fun _ _ _ h => h
theorem SameX.trans {D : Addr} {H H1 H2 : Hp} (a : SameX D H H1) (b : SameX D H1 H2) : SameX D H H2 := fun c o n h => b c o n (a c o n h)
theorem Same.x {D : Addr} {H H' : Hp} (a : Same H H') : SameX D H H' := fun c o _ h => a c o h
theorem SameX.put {D : Addr} {H H' : Hp} {o : HO} (a : SameX D H H') : SameX D H (upd H' D o) := fun c u n h => by
  rw [upd_ne n]
  exact a c u n h
theorem SameX.same {D : Addr} {H H' : Hp} (a : SameX D H H') (h : H D = none) : Same H H' := fun c u e => a c u (ne_of_none e h) e
/-- the tuples stay -/
def TSame (H H' : Hp) : Prop := ∀ b xs, H b = some (.tup xs) → H' b = some (.tup xs)
theorem TSame.trans {H H1 H2 : Hp} (a : TSame H H1) (b : TSame H1 H2) : TSame H H2 := fun c o h => b c o (a c o h)
theorem Same.t {H H' : Hp} (a : Same H H') : TSame H H' := fun c o h => a c _ h
theorem SameX.t {D : Addr} {H H' : Hp} (a : SameX D H H') (h : ∀ xs, H D ≠ some (.tup xs)) : TSame H H' := fun c o e => a c _ (fun z => h o (by rw [← z]; exact e)) e
theorem tsame_put {D : Addr} {H : Hp} {o : HO} (h : ∀ xs, H D ≠ some (.tup xs)) : TSame H (upd H D o) := fun c xs e => by
  rw [upd_ne (fun z => h xs (by rw [← z]; exact e))]
  exact e
theorem NetAt.t {H H' : Hp} {a : Addr} {n : Nat} {rs : List Rl} (h : NetAt H a n rs) (s : TSame H H') : NetAt H' a n rs := by
  obtain ⟨t, h1, as, h2, h3⟩ := h
  exact ⟨t, s _ _ h1, as, s _ _ h2, paired_imp (fun p r q => s _ _ q) h3⟩

/-! ### a tuple put behind another -/
theorem catA_any {K : PySem.W.Frag} {H : Hp} {a b : Addr} {xs ys : List V} {Q : VK} (ha : SqT K H a xs) (hb : H b = some (.tup ys)) (hy : ys ≠ []) (hz : xs.length + ys.length ≤ sizeLine)
    (h : ∀ p H', Same H H' → H' p = some (.tup (xs ++ ys)) → Q (.ref p) H') : rCatA K (.ref a) (.ref b) H Q := by
  refine ⟨a, b, xs, ys, rfl, rfl, ha, SqT.of hb, hz, fun e => ?_, fun _ e => absurd e hy, fun _ _ p hp => ?_⟩
  · subst e
    exact h b H (Same.refl H) hb
  · exact h p _ (same_new hp) upd_same

/-! ### edges -/
def edV (v : V) (e : Ed) : List V := [v, .int e.a, .int e.b, .int e.w]
abbrev EdsP (H : Hp) : List Addr → List Ed → Prop := Paired fun p e => ∃ v, H p = some (.tup (edV v e))
def EdAt (H : Hp) (L : Addr) (es : List Ed) : Prop := ∃ as : List Addr, H L = some (.lst (as.map V.ref)) ∧ EdsP H as es
theorem EdsP.t {H H' : Hp} {as : List Addr} {es : List Ed} (h : EdsP H as es) (s : TSame H H') : EdsP H' as es := paired_imp (fun p e ⟨v, q⟩ => ⟨v, s _ _ q⟩) h
theorem paired_snoc {α β : Type} {F : α → β → Prop} : ∀ {l : List α} {m : List β} {a : α} {b : β}, Paired F l m → F a b → Paired F (l ++ [a]) (m ++ [b])
  | _, _, _, _, .nil, q => .cons q .nil
  | _, _, _, _, .cons p t, q => .cons p (paired_snoc t q)
/-- one more edge is put behind -/
theorem ed_snoc {H : Hp} {L p : Addr} {as : List Addr} {es : List Ed} {v : V} {e : Ed} (hL : H L = some (.lst (as.map V.ref))) (h : EdsP H as es) (hp : H p = some (.tup (edV v e))) :
    EdAt (upd H L (.lst (as.map V.ref ++ [.ref p]))) L (es ++ [e]) := by
  have s : TSame H (upd H L (.lst (as.map V.ref ++ [.ref p]))) := tsame_put fun xs z => by
    rw [hL] at z
    cases z
  refine ⟨as ++ [p], ?_, paired_snoc (h.t s) ⟨v, s _ _ hp⟩⟩
  rw [upd_same, List.map_append]
  rfl
theorem edges_take {rs : List Rl} {i : Nat} {r : Rl} (h : rs[i]? = some r) : edges (rs.take (i + 1)) = edges (rs.take i) ++ edOne r := by
  unfold edges
  rw [List.take_add_one, h, List.flatMap_append]
  simp
theorem len_edges : ∀ rs : List Rl, (edges rs).length ≤ 2 * rs.length
  | [] => Nat.le_refl _
  | r :: rs => by
    have ih := len_edges rs
    unfold edges at *
    rw [List.flatMap_cons, List.length_append, List.length_cons]
    have : (edOne r).length ≤ 2 := by
      unfold edOne edHi edLo
      cases r.hi <;> cases r.lo <;> simp
    omega

/-! ### dicts of walks -/
def ky (p : Int × Int) : List Key := [Sum.inl p.1, Sum.inl p.2]
theorem ky_kV (p : Int × Int) : (ky p).map kV = [V.int p.1, V.int p.2] := rfl
theorem ky_inj {p q : Int × Int} (h : ky p = ky q) : p = q := by
  unfold ky at h
  injection h with h1 h2
  injection h2 with h2 _
  exact Prod.ext (Sum.inl.inj h1) (Sum.inl.inj h2)
/-- a value: a length and a walk of at most k edges -/
def WkAt (H : Hp) (v : V) (L : Int) (k : Nat) : Prop := ∃ t wk ws, v = .ref t ∧ H t = some (.tup [.int L, .ref wk]) ∧ H wk = some (.tup ws) ∧ ws.length ≤ k
theorem WkAt.t {H H' : Hp} {v : V} {L : Int} {k j : Nat} (h : WkAt H v L k) (s : TSame H H') (hj : k ≤ j) : WkAt H' v L j := by
  obtain ⟨t, wk, ws, e, h1, h2, h3⟩ := h
  exact ⟨t, wk, ws, e, s _ _ h1, s _ _ h2, Nat.le_trans h3 hj⟩
abbrev WD (H : Hp) (k : Nat) : List (List Key × V) → WM → Prop := Paired fun kv p => kv.1 = ky p.1 ∧ WkAt H kv.2 p.2 k
def WAt (H : Hp) (d : Addr) (m : WM) (k : Nat) : Prop := ∃ kvs, H d = some (.dT kvs) ∧ WD H k kvs m
theorem WD.t {H H' : Hp} {k j : Nat} {kvs : List (List Key × V)} {m : WM} (h : WD H k kvs m) (s : TSame H H') (hj : k ≤ j) : WD H' j kvs m := paired_imp (fun kv p q => ⟨q.1, q.2.t s hj⟩) h
theorem WD.len {H : Hp} {k : Nat} {kvs : List (List Key × V)} {m : WM} (h : WD H k kvs m) : kvs.length = m.length := Paired.length h
theorem WD.get {H : Hp} {k : Nat} {kvs : List (List Key × V)} {m : WM} (h : WD H k kvs m) (p : Int × Int) :
    (valM m p = none ∧ valV kvs (ky p) = none) ∨ ∃ L v, valM m p = some L ∧ valV kvs (ky p) = some v ∧ WkAt H v L k := by
  induction h with
  | nil => exact .inl ⟨rfl, rfl⟩
  | @cons kv q kvs m hq t ih =>
    by_cases e : q.1 = p
    · right
      rw [valM_pos e, valV_pos (by rw [hq.1, e])]
      exact ⟨_, _, rfl, rfl, hq.2⟩
    · rw [valM_neg e, valV_neg (by rw [hq.1]; exact fun z => e (ky_inj z))]
      exact ih
theorem WD.any {H : Hp} {k : Nat} {kvs : List (List Key × V)} {m : WM} (h : WD H k kvs m) (p : Int × Int) : (kvs.any fun kv => decide (kv.1 = ky p)) = (m.any fun q => decide (q.1 = p)) := by
  rw [valV_any, valM_any]
  rcases h.get p with ⟨a, b⟩ | ⟨L, v, a, b, _⟩
  · rw [a, b]
    rfl
  · rw [a, b]
    rfl
theorem WD.repl {H : Hp} {k : Nat} {kvs : List (List Key × V)} {m : WM} (h : WD H k kvs m) (p : Int × Int) {v : V} {L : Int} (hv : WkAt H v L k) :
    WD H k (kvs.map fun kv => if kv.1 = ky p then (kv.1, v) else kv) (m.map fun q => if q.1 = p then (q.1, L) else q) := by
  induction h with
  | nil => exact .nil
  | @cons kv q kvs m hq t ih =>
    rw [List.map_cons, List.map_cons]
    refine .cons ?_ ih
    by_cases e : q.1 = p
    · rw [if_pos e, if_pos (by rw [hq.1, e])]
      exact ⟨hq.1, hv⟩
    · rw [if_neg e, if_neg (by rw [hq.1]; exact fun z => e (ky_inj z))]
      exact hq
theorem WD.put {H : Hp} {k : Nat} {kvs : List (List Key × V)} {m : WM} (h : WD H k kvs m) (p : Int × Int) {v : V} {L : Int} (hv : WkAt H v L k) : WD H k (putK kvs (ky p) v) (putM m p L) := by
  unfold putK putM
  rw [h.any p]
  split
  · exact h.repl p hv
  · exact paired_snoc h ⟨rfl, hv⟩
/-- the dict at D gets a further value -/
theorem wat_put {H : Hp} {D : Addr} {kvs : List (List Key × V)} {m : WM} {k : Nat} {p : Int × Int} {v : V} {L : Int} (hD : H D = some (.dT kvs)) (h : WD H k kvs m) (hv : WkAt H v L k) :
    WAt (upd H D (.dT (putK kvs (ky p) v))) D (putM m p L) k :=
  ⟨_, upd_same, (h.put p hv).t (tsame_put fun xs z => by rw [hD] at z; cases z) (Nat.le_refl _)⟩

/-! ### sizes -/
theorem len_stepE (k : Int × Int) (len : Int) (acc : WM) (e : Ed) : (stepE k len acc e).length ≤ acc.length + 1 := by
  unfold stepE
  split
  · exact len_relax ..
  · exact Nat.le_succ _
theorem len_stepP (es : List Ed) (p : (Int × Int) × Int) : ∀ acc : WM, (stepP es acc p).length ≤ acc.length + es.length := by
  unfold stepP
  induction es with
  | nil => intro acc; exact Nat.le_refl _
  | cons e es ih =>
    intro acc
    rw [List.foldl_cons, List.length_cons]
    have h1 := ih (stepE p.1 p.2 acc e)
    have h2 := len_stepE p.1 p.2 acc e
    omega
theorem len_relaxes : ∀ (cs : List ((Int × Int) × Int)) (m : WM), (relaxes m cs).length ≤ m.length + cs.length
  | [], m => Nat.le_refl _
  | c :: cs, m => by
    rw [relaxes_cons, List.length_cons]
    have h1 := len_relaxes cs (relax m c.1 c.2)
    have h2 := len_relax m c.1 c.2
    omega
theorem fold_take {α β : Type} {f : β → α → β} {b : β} {l : List α} {i : Nat} {a : α} (h : l[i]? = some a) : (l.take (i + 1)).foldl f b = f ((l.take i).foldl f b) a := by
  rw [List.take_add_one, h, List.foldl_append]
  rfl
end Ab

namespace Ab
open PySem PySem.Spec PyProof.Rows L2
section
variable {P : Program} {w : World} {K : PySem.W.Frag} {mg : Str → Option Value} {base : Heap}

def spBetween : Sp := fun vs H Q _ => ∃ x lo hi : Int, vs = [.int x, .int lo, .int hi] ∧ Q (.bl (decide (lo ≤ x ∧ x ≤ hi))) H
theorem scBetween : FnScope ["value", "low", "high"] ["value", "low", "high"] (defScope (top 8)) := ⟨rfl, rfl, rfl, by decide +kernel, rfl, by decide +kernel, by decide +kernel⟩
theorem okBetween (T : Txt K mg) {f : Addr} {fd : FuncData} (F : Fun K "is_between" "is_between" (top 8) f fd) : FnOk P w K mg base CX0 1 f fd ["value", "low", "high"] spBetween := by
  refine F.ok scBetween (fun vs H Q E h => ?_) (fun cdv A outer s H vs Q E hr h => ?_)
  · obtain ⟨x, lo, hi, rfl, _⟩ := h
    rfl
  · obtain ⟨x, lo, hi, rfl, q⟩ := h
    refine ⟨_, pss_one (ps_ret (pe_and (pe_callB call_isi (by rfl) T.bIsi (by decide +kernel) (pa_cons (pv 0) (pa_cons (pe_ty (n := "int") (by rfl) T.bInt (by decide +kernel)) pa_nil)))
      (pe_and (pe_not (pe_callB call_isi (by rfl) T.bIsi (by decide +kernel) (pa_cons (pv 0) (pa_cons (pe_ty (n := "bool") (by rfl) T.bBool (by decide +kernel)) pa_nil))))
        (pe_one (pe_chain op_le op_le (pv 1) (pv 0) (pv 2)))))), ?_⟩
    refine ⟨_, rfl, _, _, _, _, true, rfl, .ty "int", .base (.int x), kit_ty (by decide +kernel), _, rfl, iteT ?_⟩
    refine ⟨_, rfl, _, _, _, _, false, rfl, .ty "bool", .base (.int x), kit_ty (by decide +kernel), _, rfl, _, rfl, iteT ?_⟩
    refine ⟨_, rfl, _, rfl, _, _, rfl, rfl, _, rfl, ite2 (fun h1 => ?_) (fun h1 => ?_)⟩
    · refine ⟨_, rfl, _, _, rfl, rfl, ?_⟩
      have e : decide (lo ≤ x ∧ x ≤ hi) = decide (x ≤ hi) := by
        have := of_decide_eq_true h1
        simp [this]
      show Q (.bl (decide (x ≤ hi))) H
      rw [← e]
      exact q
    · have e : decide (lo ≤ x ∧ x ≤ hi) = false := by
        have : ¬ lo ≤ x := fun z => h1 (decide_eq_true z)
        simp [this]
      rw [e] at q
      exact q

def spSide : Sp := fun vs H Q _ => ∃ o : Option Int, vs = [oV o] ∧ (∀ x, o = some x → -100 ≤ x ∧ x ≤ 100) ∧ Q (.bl true) H
theorem scSide : FnScope ["value"] ["value"] (defScope (top 9)) := ⟨rfl, rfl, rfl, by decide +kernel, rfl, by decide +kernel, by decide +kernel⟩
theorem okSide (T : Txt K mg) (cB : Cal P w K mg base 1 "is_between" spBetween) {f : Addr} {fd : FuncData} (F : Fun K "is_side" "is_side" (top 9) f fd) : FnOk P w K mg base CX0 2 f fd ["value"] spSide := by
  obtain ⟨tf, hf⟩ := T.far
  refine F.ok scSide (fun vs H Q E h => ?_) (fun cdv A outer s H vs Q E hr h => ?_)
  · obtain ⟨o, rfl, _⟩ := h
    rfl
  · obtain ⟨o, rfl, hb, q⟩ := h
    refine ⟨_, pss_one (ps_ret (pe_or (pe_cmp (pc_isN (pv 0))) (pe_one (pe_k cB hr (Nat.le_refl _) (by rfl) (pa_cons (pv 0)
      (pa_cons (pe_op op_sub pe_int (pe_glob (v := .int 100) (by rfl) hf ⟨_, rfl⟩)) (pa_cons (pe_glob (v := .int 100) (by rfl) hf ⟨_, rfl⟩) pa_nil))))))), ?_⟩
    refine ⟨_, rfl, _, rfl, ?_⟩
    rw [oV_none]
    cases o with
    | none => exact iteT q
    | some x =>
      refine iteF ?_
      obtain ⟨h1, h2⟩ := hb x rfl
      refine ⟨_, rfl, _, _, rfl, rfl, x, _, _, rfl, ?_⟩
      have e : decide ((0 : Int) - 100 ≤ x ∧ x ≤ 100) = true := decide_eq_true ⟨by omega, h2⟩
      show Q (.bl (decide ((0 : Int) - 100 ≤ x ∧ x ≤ 100))) H
      rw [e]
      exact q

def spRule : Sp := fun vs H Q _ => ∃ (a : Addr) (n : Int) (r : Rl), vs = [.ref a, .int n] ∧ H a = some (.tup (rlV r)) ∧ RlOk n r ∧ Q (.bl true) H
theorem scRule : FnScope ["value", "size", "start", "end", "low", "high"] ["value", "size"] (defScope (top 10)) := ⟨rfl, rfl, rfl, by decide +kernel, rfl, by decide +kernel, by decide +kernel⟩
theorem okRule (T : Txt K mg) (cB : Cal P w K mg base 1 "is_between" spBetween) (cS : Cal P w K mg base 2 "is_side" spSide) {f : Addr} {fd : FuncData} (F : Fun K "is_rule" "is_rule" (top 10) f fd) : FnOk P w K mg base CX0 3 f fd ["value", "size"] spRule := by
  refine F.ok scRule (fun vs H Q E h => ?_) (fun cdv A outer s H vs Q E hr h => ?_)
  · obtain ⟨a, n, r, rfl, _⟩ := h
    rfl
  · obtain ⟨a, n, r, rfl, ha, hok, q⟩ := h
    refine ⟨_, pss_cons (ps_if (PW.pt (pw_or (pt_not (pt_val (pe_callB call_isi (by rfl) T.bIsi (by decide +kernel) (pa_cons (pv 0) (pa_cons (pe_ty (n := "tuple") (by rfl) T.bTup (by decide +kernel)) pa_nil)))))
        (pw_or1 (pt_cmpR op_ne (pe_callB call_len_seq (by rfl) T.bLen PySem.boot_len (pa_cons (pv 0) pa_nil)) pe_int (nomark _))))) (pss_one (ps_ret pe_bl)) pss_nil)
      (pss_cons (ps_asg (pv 0) (pg_tup (by rfl) (pgs_cons (pg_name (i := 2) scRule.nd rfl (.inl rfl)) (pgs_cons (pg_name (i := 3) scRule.nd rfl (.inl rfl)) (pgs_cons (pg_name (i := 4) scRule.nd rfl (.inl rfl)) (pgs_cons (pg_name (i := 5) scRule.nd rfl (.inl rfl)) pgs_nil))))))
      (pss_cons (ps_if (PW.pt (pw_or (pt_not (pt_val (pe_k cB hr (by decide) (by rfl) (pa_cons (pv 2) (pa_cons pe_int (pa_cons (pe_op op_sub (pv 1) pe_int) pa_nil))))))
        (pw_or (pt_not (pt_val (pe_k cB hr (by decide) (by rfl) (pa_cons (pv 3) (pa_cons pe_int (pa_cons (pe_op op_sub (pv 1) pe_int) pa_nil))))))
          (pw_or1 (pt_cmpR op_eq (pv 2) (pv 3) (nomark _)))))) (pss_one (ps_ret pe_bl)) pss_nil)
      (pss_one (ps_ret (pe_and (pe_k cS hr (by decide) (by rfl) (pa_cons (pv 4) pa_nil)) (pe_and (pe_k cS hr (by decide) (by rfl) (pa_cons (pv 5) pa_nil))
        (pe_one (pe_or (pe_cmp (pc_notN (pv 4))) (pe_one (pe_cmp (pc_notN (pv 5)))))))))))), ?_⟩
    refine ⟨_, rfl, _, _, _, _, true, rfl, .ty "tuple", .base (.tup ha), kit_ty (by decide +kernel), _, rfl, iteF ?_⟩
    refine ⟨_, rfl, a, _, rfl, .inr (SqT.of ha), rfl, _, rfl, iteNS rfl ?_⟩
    refine ⟨_, rfl, a, _, rfl, SqT.of ha, rfl, _, _, rfl, _, _, rfl, _, _, rfl, _, _, rfl, rfl, ?_⟩
    have e1 : decide ((0 : Int) ≤ r.s ∧ r.s ≤ n - 1) = true := decide_eq_true ⟨hok.s0, by have := hok.s1; omega⟩
    have e2 : decide ((0 : Int) ≤ r.e ∧ r.e ≤ n - 1) = true := decide_eq_true ⟨hok.e0, by have := hok.e1; omega⟩
    refine ⟨_, rfl, _, rfl, _, _, rfl, rfl, r.s, 0, n - 1, rfl, _, rfl, ?_⟩
    rw [e1]
    refine iteF ?_
    refine ⟨_, rfl, _, rfl, _, _, rfl, rfl, r.e, 0, n - 1, rfl, _, rfl, ?_⟩
    rw [e2]
    refine iteF ?_
    refine ⟨_, rfl, _, rfl, rfl, _, rfl, ite2 (fun z => ?_) fun _ => ?_⟩
    · exact absurd (V.int.inj (of_decide_eq_true z)) hok.ne
    refine ⟨_, rfl, r.lo, rfl, fun x hx => by have := hok.lo x hx; omega, _, rfl, iteT ?_⟩
    refine ⟨_, rfl, r.hi, rfl, fun x hx => by have := hok.hi x hx; omega, _, rfl, iteT ?_⟩
    refine ⟨_, rfl, _, rfl, ?_⟩
    rw [oV_none]
    cases hl : r.lo with
    | some x => exact iteT q
    | none =>
      refine iteF ⟨_, rfl, ?_⟩
      show Q (.bl (!decide (oV r.hi = .non))) H
      rw [oV_none]
      cases hh : r.hi with
      | some x => exact q
      | none => exact absurd hh (hok.one.resolve_left fun z => z hl)

def rsV (as : List Addr) : List V := as.map V.ref
def spNet : Sp := fun vs H Q _ => ∃ (a : Addr) (n : Nat) (rs : List Rl), vs = [.ref a] ∧ NetAt H a n rs ∧ NetOk n rs ∧ ∀ H', Same H H' → Q (.bl true) H'
theorem scNet : FnScope ["value", "rule"] ["value"] (defScope (top 11)) := ⟨rfl, rfl, rfl, by decide +kernel, rfl, by decide +kernel, by decide +kernel⟩
theorem okNet (T : Txt K mg) (cB : Cal P w K mg base 1 "is_between" spBetween) (cR : Cal P w K mg base 3 "is_rule" spRule) {f : Addr} {fd : FuncData} (F : Fun K "is_net" "is_net" (top 11) f fd) : FnOk P w K mg base CX0 4 f fd ["value"] spNet := by
  obtain ⟨t1, h1⟩ := T.events
  obtain ⟨t2, h2⟩ := T.rules
  refine F.ok scNet (fun vs H Q E h => ?_) (fun cdv A outer s H vs Q E hr h => ?_)
  · obtain ⟨a, n, rs, rfl, _⟩ := h
    rfl
  · obtain ⟨a, n, rs, rfl, ⟨t, ha, as, ht, hp⟩, hok, q⟩ := h
    refine ⟨_, (pss_cons (ps_if (PW.pt (pw_or (pt_not (pt_val (pe_callB call_isi (by rfl) T.bIsi (by decide +kernel) (pa_cons (pv 0) (pa_cons (pe_ty (n := "tuple") (by rfl) T.bTup (by decide +kernel)) pa_nil))))) (pw_or (pt_cmpR op_ne (pe_callB call_len_seq (by rfl) T.bLen PySem.boot_len (pa_cons (pv 0) pa_nil)) pe_int (nomark _)) (pw_or1 (pt_not (pt_val (pe_k cB hr (by decide) (by rfl) (pa_cons (pe_ix (ixT K) (pv 0) pe_int (fun _ _ => rfl)) (pa_cons pe_int (pa_cons (pe_glob (v := .int 6) (by rfl) h1 ⟨_, rfl⟩) pa_nil)))))))))) (pss_one (ps_ret pe_bl)) pss_nil)
       (pss_cons (ps_if (PW.pt (pw_or (pt_not (pt_val (pe_callB call_isi (by rfl) T.bIsi (by decide +kernel) (pa_cons (pe_ix (ixT K) (pv 0) pe_int (fun _ _ => rfl)) (pa_cons (pe_ty (n := "tuple") (by rfl) T.bTup (by decide +kernel)) pa_nil))))) (pw_or1 (pt_cmpR op_gt (pe_callB call_len_seq (by rfl) T.bLen PySem.boot_len (pa_cons (pe_ix (ixT K) (pv 0) pe_int (fun _ _ => rfl)) pa_nil)) (pe_glob (v := .int 12) (by rfl) h2 ⟨_, rfl⟩) (nomark _))))) (pss_one (ps_ret pe_bl)) pss_nil)
       (pss_one (ps_ret (pe_callB (cr_all rfl) (by rfl) T.bAll (by decide +kernel) (pa_cons (pe_lc (own := [("rule", 1)]) (g := gName 1) (tt := tYes) rfl scNet.nd (pi_tup (pe_ix (ixT K) (pv 0) pe_int (fun _ _ => rfl))) (blkOk_by (N := ["value", "rule"]) (sc := (defScope (top 11))) (by decide +kernel)) (fun _ _ _ _ _ => pg_name (i := 1) scNet.nd rfl (Or.inl rfl)) (fun _ _ _ _ _ => pts_nil) (fun _ _ _ _ _ => (pe_k cR hr (by decide) (by rfl) (pa_cons (pv 1) (pa_cons (pe_ix (ixT K) (pv 0) pe_int (fun _ _ => rfl)) pa_nil))))) pa_nil)))))), ?_⟩
    have la : as.length = rs.length := Paired.length hp
    refine ⟨_, rfl, _, _, _, _, true, rfl, .ty "tuple", .base (.tup ha), kit_ty (by decide +kernel), _, rfl, iteF ?_⟩
    refine ⟨_, rfl, a, _, rfl, .inr (SqT.of ha), rfl, _, rfl, iteNS rfl ?_⟩
    refine ⟨_, rfl, a, _, _, _, rfl, rfl, SqT.of ha, atI_nat (j := 0) rfl, (n : Int), 1, 6, rfl, _, rfl, ?_⟩
    have e1 : decide ((1 : Int) ≤ (n : Int) ∧ (n : Int) ≤ 6) = true := decide_eq_true ⟨by have := hok.n1; omega, by have := hok.n3; omega⟩
    rw [e1]
    refine iteF ?_
    refine ⟨_, rfl, a, _, _, _, rfl, rfl, SqT.of ha, atI_nat (j := 1) rfl, _, _, _, _, true, rfl, .ty "tuple", .base (.tup ht), kit_ty (by decide +kernel), _, rfl, iteF ?_⟩
    refine ⟨_, rfl, a, _, _, _, rfl, rfl, SqT.of ha, atI_nat (j := 1) rfl, t, _, rfl, .inr (SqT.of ht), _, _, rfl, rfl, _, rfl, ite2 (fun z => ?_) fun _ => ?_⟩
    · have z' := of_decide_eq_true z
      rw [List.length_map, la] at z'
      have := hok.len
      omega
    refine ⟨_, rfl, a, _, _, _, rfl, rfl, SqT.of ha, atI_nat (j := 1) rfl, t, rfl, ⟨_, SqT.of ht⟩, fun D hD => ?_⟩
    refine lc_it (walk_tup (xs := as.map V.ref)) (fun i H' => Same H H' ∧ H' D = some (.lst (List.replicate i (.bl true)))) ⟨same_new hD, upd_same⟩ (fun i H' _ p => SqT.of (p.1 _ _ ht)) ?_ ?_
    · rintro i x H1 H2 hi ⟨s1, hl1⟩ ⟨rfl, hx⟩
      rw [List.getElem?_map] at hx
      obtain ⟨pa, hpa, rfl⟩ := Option.map_eq_some_iff.mp hx
      obtain ⟨r, hr1, hr2⟩ := paired_get hp hpa
      have hro := hok.all r (List.mem_of_getElem? hr1)
      refine ⟨rfl, yes_in ⟨_, rfl, _, rfl, a, _, _, _, rfl, rfl, SqT.of (s1 _ _ ha), atI_nat (j := 0) rfl, pa, n, r, rfl, s1 _ _ hr2, hro, _, hl1, ?_, ?_, ?_⟩⟩
      · rw [List.length_replicate]
        rw [List.length_map, la] at hi
        exact small1000 (by have := hok.len; omega)
      · exact same_mut s1 hD
      · rw [upd_same, ← List.replicate_succ']
    · rintro H1 ⟨s1, hl1⟩
      refine ⟨D, List.replicate as.length true, rfl, ?_, ?_⟩
      · rw [List.length_map] at hl1
        rw [List.map_replicate]
        exact SqL.of hl1
      · have e : (List.replicate as.length true).all id = true := by simp
        show Q (.bl ((List.replicate as.length true).all id)) H1
        rw [e]
        exact q H1 s1
def spCheck : Sp := fun vs H Q _ => ∃ (a : Addr) (n : Nat) (rs : List Rl), vs = [.ref a] ∧ NetAt H a n rs ∧ NetOk n rs ∧ ∀ H', Same H H' → Q .non H'
theorem scCheck : FnScope ["net"] ["net"] (defScope (top 14)) := ⟨rfl, rfl, rfl, by decide +kernel, rfl, by decide +kernel, by decide +kernel⟩
theorem okCheck (T : Txt K mg) (cN : Cal P w K mg base 4 "is_net" spNet) {f : Addr} {fd : FuncData} (F : Fun K "check_net" "check_net" (top 14) f fd) : FnOk P w K mg base CX0 5 f fd ["net"] spCheck := by
  refine F.ok scCheck (fun vs H Q E h => ?_) (fun cdv A outer s H vs Q E hr h => ?_)
  · obtain ⟨a, n, rs, rfl, _⟩ := h
    rfl
  · obtain ⟨a, n, rs, rfl, ha, hok, q⟩ := h
    refine ⟨_, (pss_one (ps_if (pt_not (pt_val (pe_k cN hr (by decide) (by rfl) (pa_cons (pv 0) pa_nil)))) (pss_one ps_never) pss_nil)), ?_⟩
    refine ⟨_, rfl, a, n, rs, rfl, ha, hok, fun H1 s1 => ⟨_, rfl, iteF ?_⟩⟩
    exact q H1 s1
end
end Ab

namespace Ab
open PySem PySem.Spec PyProof.Rows L2
section
variable {P : Program} {w : World} {K : PySem.W.Frag} {mg : Str → Option Value} {base : Heap}

def spEdges : Sp := fun vs H Q _ => ∃ (a : Addr) (n : Nat) (rs : List Rl), vs = [.ref a] ∧ NetAt H a n rs ∧ rs.length ≤ 4 ∧ ∀ H' L, Same H H' → H L = none → EdAt H' L (edges rs) → Q (.ref L) H'
theorem scEdges : FnScope ["net", "found", "at", "rule", "start", "end", "low", "high"] ["net"] (defScope (top 12)) := ⟨rfl, rfl, rfl, by decide +kernel, rfl, by decide +kernel, by decide +kernel⟩
theorem okEdges (T : Txt K mg) {f : Addr} {fd : FuncData} (F : Fun K "edges_of" "edges_of" (top 12) f fd) : FnOk P w K mg base CX0 1 f fd ["net"] spEdges := by
  refine F.ok scEdges (fun vs H Q E h => ?_) (fun cdv A outer s H vs Q E hr h => ?_)
  · obtain ⟨a, n, rs, rfl, _⟩ := h
    rfl
  · obtain ⟨a, n, rs, rfl, ⟨t, ha, as, ht, hp⟩, hok, q⟩ := h
    have la : as.length = rs.length := Paired.length hp
    refine ⟨_, (pss_cons (ps_set (i := 1) scEdges.nd rfl (Or.inl rfl) (pe_lst pa_nil))
       (pss_cons (ps_for PassesOwn.never rfl (pi_enum_tup (by rfl) T.bEnum (pa_cons (pe_ix (ixT K) (pv 0) pe_int (fun _ _ => rfl)) pa_nil)) (pg_tup (by rfl) (pgs_cons (pg_name (i := 2) scEdges.nd rfl (Or.inl rfl)) (pgs_cons (pg_name (i := 3) scEdges.nd rfl (Or.inl rfl)) pgs_nil))) (pss_cons (ps_asg (pv 3) (pg_tup (by rfl) (pgs_cons (pg_name (i := 4) scEdges.nd rfl (Or.inl rfl)) (pgs_cons (pg_name (i := 5) scEdges.nd rfl (Or.inl rfl)) (pgs_cons (pg_name (i := 6) scEdges.nd rfl (Or.inl rfl)) (pgs_cons (pg_name (i := 7) scEdges.nd rfl (Or.inl rfl)) pgs_nil)))))) (C8.pss_cut (ps_if (pt_cmp (pc_notN (pv 7))) (pss_one (ps_expr (pe_bm PySem.F.plainAttrs_list PySem.F.slot_list_append PySem.F.type_list_append mt_append (pv 1) (pa_cons (pe_tup (pa_cons (pe_tup (pa_cons (pv 2) (pa_cons pe_str pa_nil))) (pa_cons (pv 4) (pa_cons (pv 5) (pa_cons (pv 7) pa_nil))))) pa_nil)))) pss_nil) (pss_one (ps_if (pt_cmp (pc_notN (pv 6))) (pss_one (ps_expr (pe_bm PySem.F.plainAttrs_list PySem.F.slot_list_append PySem.F.type_list_append mt_append (pv 1) (pa_cons (pe_tup (pa_cons (pe_tup (pa_cons (pv 2) (pa_cons pe_str pa_nil))) (pa_cons (pv 5) (pa_cons (pv 4) (pa_cons (pe_op op_sub pe_int (pv 6)) pa_nil))))) pa_nil)))) pss_nil)))))
       (pss_one (ps_ret (pv 1))))), ?_⟩
    refine ⟨Nat.zero_le _, fun L hL => ?_⟩
    have s0 := same_new (o := .lst []) hL
    refine ⟨_, rfl, a, _, _, _, rfl, rfl, SqT.of (s0 _ _ ha), atI_nat (j := 1) rfl, t, _, rfl, SqT.of (s0 _ _ ht), ?_⟩
    refine for_it (walk_enum_tup (xs := as.map V.ref)) (fun i σ H' => (∃ v2 v3 v4 v5 v6 v7, σ = [some (.ref a), some (.ref L), v2, v3, v4, v5, v6, v7]) ∧ Same H H' ∧ EdAt H' L (edges (rs.take i)))
      ⟨⟨_, _, _, _, _, _, rfl⟩, s0, [], upd_same, .nil⟩ (fun i σ H' _ p => SqT.of (p.2.1 _ _ ht)) ?_ ?_
    · rintro i x σ H1 H2 hi ⟨⟨v2, v3, v4, v5, v6, v7, rfl⟩, s1, es, hl1, hes⟩ ⟨p0, x0, y0, rfl, hp0, rfl, ex0, ey0⟩
      cases ex0
      have ey1 : (as.map V.ref)[i]? = some y0 := ey0
      rw [List.getElem?_map] at ey1
      obtain ⟨pa, hpa, rfl⟩ := Option.map_eq_some_iff.mp ey1
      obtain ⟨r, hr1, hr2⟩ := paired_get hp hpa
      have s2 : Same H (upd H1 p0 (.tup [.int (i : Nat), .ref pa])) := s1.trans (same_new hp0)
      have hl2 : upd H1 p0 (.tup [.int (i : Nat), .ref pa]) L = some (.lst (es.map V.ref)) := same_new hp0 _ _ hl1
      have hes2 := hes.t (Same.t (same_new (o := .tup [.int (i : Nat), .ref pa]) hp0))
      have hq0 : upd H1 p0 (.tup [.int (i : Nat), .ref pa]) p0 = some (.tup [.int (i : Nat), .ref pa]) := upd_same
      generalize upd H1 p0 (.tup [.int (i : Nat), .ref pa]) = H2 at s2 hl2 hes2 hq0
      refine ⟨p0, _, rfl, SqT.of hq0, rfl, _, _, rfl, _, _, rfl, rfl, ?_⟩
      refine ⟨_, rfl, pa, _, rfl, SqT.of (s2 _ _ hr2), rfl, _, _, rfl, _, _, rfl, _, _, rfl, _, _, rfl, rfl, ?_⟩
      have len0 : es.length ≤ 8 := by
        have h1 := Paired.length hes2
        have h2 := len_edges (rs.take i)
        rw [List.length_take] at h2
        omega
      have step : ∀ {H3 : Hp} {es3 : List Addr} {el : List Ed} {l : Str} {a b w : Int}, Same H H3 → H3 L = some (.lst (es3.map V.ref)) → EdsP H3 es3 el → es3.length ≤ 1000 → ∀ p1, H3 p1 = none → ∀ p2, upd H3 p1 (.tup [.int (i : Nat), .str l]) p2 = none →
          ∃ xs, upd (upd H3 p1 (.tup [.int (i : Nat), .str l])) p2 (.tup [.ref p1, .int a, .int b, .int w]) L = some (.lst xs) ∧ xs.length < sizeLine ∧
            Same H (upd (upd (upd H3 p1 (.tup [.int (i : Nat), .str l])) p2 (.tup [.ref p1, .int a, .int b, .int w])) L (.lst (xs ++ [.ref p2]))) ∧
            EdAt (upd (upd (upd H3 p1 (.tup [.int (i : Nat), .str l])) p2 (.tup [.ref p1, .int a, .int b, .int w])) L (.lst (xs ++ [.ref p2]))) L (el ++ [⟨a, b, w⟩]) := by
        intro H3 es3 el l a b w s3 hl3 he3 hn p1 hp1 p2 hp2
        have s4 := Same.trans (same_new (o := .tup [.int (i : Nat), .str l]) hp1) (same_new (o := .tup [.ref p1, .int a, .int b, .int w]) hp2)
        have hL4 := s4 _ _ hl3
        refine ⟨_, hL4, by rw [List.length_map]; exact small1000 hn, same_mut (s3.trans s4) hL, ed_snoc (e := ⟨a, b, w⟩) hL4 (he3.t (Same.t s4)) upd_same⟩
      refine ⟨fun σ H3 => σ = [some (.ref a), some (.ref L), some (.int (i : Nat)), some (.ref pa), some (.int r.s), some (.int r.e), some (oV r.lo), some (oV r.hi)] ∧ Same H H3 ∧
        ∃ es3, H3 L = some (.lst (es3.map V.ref)) ∧ EdsP H3 es3 (edges (rs.take i) ++ edHi r) ∧ es3.length ≤ 9, ?_, ?_⟩
      · refine ⟨_, rfl, _, rfl, ?_⟩
        rw [oV_none]
        cases hh : r.hi with
        | none =>
          refine iteF ⟨rfl, s2, es, hl2, ?_, by omega⟩
          unfold edHi
          rw [hh, List.append_nil]
          exact hes2
        | some x =>
          refine iteT ⟨_, rfl, .inl ⟨rfl, _, SqL.of hl2⟩, _, rfl, by show 2 ≤ sizeLine; decide, fun p1 hp1 => ⟨_, rfl, _, rfl, _, rfl, by show 4 ≤ sizeLine; decide, fun p2 hp2 => ?_⟩⟩
          obtain ⟨xs, g1, g2, g3, es4, g4, g5⟩ := step (a := r.s) (b := r.e) (w := x) s2 hl2 hes2 (by omega) p1 hp1 p2 hp2
          refine ⟨_, _, _, rfl, rfl, g1, g2, rfl, g3, es4, g4, ?_, ?_⟩
          · unfold edHi
            rw [hh]
            exact g5
          · have q1 := Paired.length g5
            have q2 := Paired.length hes2
            rw [List.length_append] at q1
            simp only [List.length_singleton] at q1
            omega
      · rintro σ H3 ⟨rfl, s3, es3, hl3, hes3, hn3⟩
        have fin : ∀ {H4 : Hp}, EdAt H4 L (edges (rs.take i) ++ edHi r ++ edLo r) → EdAt H4 L (edges (rs.take (i + 1))) := fun {H4} z => by
          rw [edges_take hr1]
          unfold edOne
          rw [← List.append_assoc]
          exact z
        refine ⟨_, rfl, _, rfl, ?_⟩
        rw [oV_none]
        cases hh : r.lo with
        | none =>
          refine iteF ⟨⟨_, _, _, _, _, _, rfl⟩, s3, fin ⟨es3, hl3, ?_⟩⟩
          unfold edLo
          rw [hh, List.append_nil]
          exact hes3
        | some x =>
          refine iteT ⟨_, rfl, .inl ⟨rfl, _, SqL.of hl3⟩, _, rfl, by show 2 ≤ sizeLine; decide, fun p1 hp1 => ⟨_, rfl, _, rfl, _, rfl, _, _, rfl, rfl, by show 4 ≤ sizeLine; decide, fun p2 hp2 => ?_⟩⟩
          obtain ⟨xs, g1, g2, g3, g4⟩ := step (a := r.e) (b := r.s) (w := 0 - x) s3 hl3 hes3 (by omega) p1 hp1 p2 hp2
          refine ⟨_, _, _, rfl, rfl, g1, g2, ⟨_, _, _, _, _, _, rfl⟩, g3, fin ?_⟩
          unfold edLo
          rw [hh]
          exact g4
    · rintro σ H1 ⟨⟨v2, v3, v4, v5, v6, v7, rfl⟩, s1, he⟩
      rw [List.length_map, la, List.take_length] at he
      exact ⟨_, rfl, q H1 L s1 hL he⟩

theorem relax_eq (m : WM) (k : Int × Int) (c : Int) : relax m k c = match valM m k with
  | none => putM m k c
  | some d => if c < d then putM m k c else m := rfl
/-- found[start, far] = (length + weight, walk + (edge,)) -/
theorem store_read {K : PySem.W.Frag} {E : Ends} {H : Hp} {va vd : Option V} {D wk : Addr} {s0 h0 len nr fr wt : Int} {ve : V} {kvs : List (List Key × V)} {m : WM} {k : Nat} {ws : List V}
    (hD : H D = some (.dT kvs)) (hw : WD H (k + 1) kvs m) (hk : H wk = some (.tup ws)) (hl : ws.length ≤ k) (hk2 : k ≤ 100) (hz : m.length < sizeLine)
    (h : ∀ H', SameX D H H' → WAt H' D (putM m (s0, fr) (len + wt)) (k + 1) → E.nx [va, vd, some (.ref D), some (.int s0), some (.int h0), some (.int len), some (.ref wk), some ve, some (.int nr), some (.int fr), some (.int wt)] H') :
    sDPut (tVar 2) (tTup (tCons (tVar 3) (tCons (tVar 9) tNil))) (tTup (tCons (tOp (rI0 fun i j => .int (i + j)) (tVar 5) (tVar 10)) (tCons (tOp (rCatA K) (tVar 6) (tTup (tCons (tVar 7) tNil))) tNil))) E
      [va, vd, some (.ref D), some (.int s0), some (.int h0), some (.int len), some (.ref wk), some ve, some (.int nr), some (.int fr), some (.int wt)] H := by
  have nD : ∀ xs, H D ≠ some (.tup xs) := fun xs z => by
    rw [hD] at z
    cases z
  refine ⟨_, rfl, _, rfl, _, _, rfl, rfl, _, rfl, _, rfl, by show 1 ≤ sizeLine; decide, fun p hp => ?_⟩
  have sp := same_new (o := .tup [ve]) hp
  refine catA_any (SqT.of (sp _ _ hk)) upd_same (by simp) (by show ws.length + 1 ≤ sizeLine; exact Nat.le_trans (by omega : ws.length + 1 ≤ 1000) (by decide)) fun p2 H2 s2 hp2 => ?_
  have s3 := Same.trans sp s2
  refine ⟨by show 2 ≤ sizeLine; decide, fun p3 hp3 => ?_⟩
  have s4 := Same.trans s3 (same_new (o := .tup [.int (len + wt), .ref p2]) hp3)
  have v3 : upd H2 p3 (.tup [.int (len + wt), .ref p2]) p3 = some (.tup [.int (len + wt), .ref p2]) := upd_same
  have v2 : upd H2 p3 (.tup [.int (len + wt), .ref p2]) p2 = some (.tup (ws ++ [ve])) := same_new hp3 _ _ hp2
  generalize upd H2 p3 (.tup [.int (len + wt), .ref p2]) = H3 at s4 v3 v2
  refine ⟨_, rfl, _, rfl, _, rfl, by show 2 ≤ sizeLine; decide, fun p5 hp5 => ?_⟩
  have s6 := Same.trans s4 (same_new (o := .tup [.int s0, .int fr]) hp5)
  have w3 := same_new (o := .tup [.int s0, .int fr]) hp5 _ _ v3
  have w2 := same_new (o := .tup [.int s0, .int fr]) hp5 _ _ v2
  refine ⟨D, _, rfl, DPut.t (k := ky (s0, fr)) (s6 _ _ hD) upd_same (by rw [hw.len]; exact hz), h _ (Same.x s6).put ?_⟩
  exact wat_put (s6 _ _ hD) (hw.t (Same.t s6) (Nat.le_refl _)) ⟨p3, p2, _, rfl, w3, w2, by rw [List.length_append]; show ws.length + 1 ≤ k + 1; omega⟩

def spLonger : Sp := fun vs H Q _ => ∃ (a d : Addr) (n : Nat) (rs : List Rl) (m : WM) (k : Nat), vs = [.ref a, .ref d] ∧ NetAt H a n rs ∧ rs.length ≤ 4 ∧ WAt H d m k ∧ (keysM m).Nodup ∧ m.length ≤ 100000 ∧ k ≤ 100 ∧
  ∀ H' D, Same H H' → H D = none → WAt H' D (longer (edges rs) m) (k + 1) → Q (.ref D) H'
theorem scLonger : FnScope ["net", "walks", "found", "start", "here", "length", "walk", "edge", "near", "far", "weight"] ["net", "walks"] (defScope (top 15)) := ⟨rfl, rfl, rfl, by decide +kernel, rfl, by decide +kernel, by decide +kernel⟩
theorem okLonger (T : Txt K mg) (cE : Cal P w K mg base 1 "edges_of" spEdges) {f : Addr} {fd : FuncData} (F : Fun K "longer_walks" "longer_walks" (top 15) f fd) : FnOk P w K mg base CX0 2 f fd ["net", "walks"] spLonger := by
  refine F.ok scLonger (fun vs H Q E h => ?_) (fun cdv A outer s H vs Q E hr h => ?_)
  · obtain ⟨a, d, n, rs, m, k, rfl, _⟩ := h
    rfl
  · obtain ⟨a, d, n, rs, m, k, rfl, hnet, hrs, ⟨kvs, hd, hw⟩, hnd, hml, hk, q⟩ := h
    have hu := hu_of hr
    have hes : (edges rs).length ≤ 8 := by
      have := len_edges rs
      omega
    refine ⟨_, (pss_cons (ps_set (i := 2) scLonger.nd rfl (Or.inl rfl) pe_dnewT)
       (pss_cons (ps_lock (ps_for PassesOwn.never rfl (pi_keys (pv 1)) (pg_tup (by rfl) (pgs_cons (pg_name (i := 3) scLonger.nd rfl (Or.inl rfl)) (pgs_cons (pg_name (i := 4) scLonger.nd rfl (Or.inl rfl)) pgs_nil))) (pss_cons (ps_asg (pe_dget hu (pv 1) (pe_tup (pa_cons (pv 3) (pa_cons (pv 4) pa_nil))) (fun _ _ => rfl)) (pg_tup (by rfl) (pgs_cons (pg_name (i := 5) scLonger.nd rfl (Or.inl rfl)) (pgs_cons (pg_name (i := 6) scLonger.nd rfl (Or.inl rfl)) pgs_nil)))) (pss_one (ps_for PassesOwn.never rfl (pi_list (pe_k cE hr (by decide) (by rfl) (pa_cons (pv 0) pa_nil))) (pg_tup (by rfl) (pgs_cons (pg_name (i := 7) scLonger.nd rfl (Or.inl rfl)) (pgs_cons (pg_name (i := 8) scLonger.nd rfl (Or.inl rfl)) (pgs_cons (pg_name (i := 9) scLonger.nd rfl (Or.inl rfl)) (pgs_cons (pg_name (i := 10) scLonger.nd rfl (Or.inl rfl)) pgs_nil))))) (pss_one (ps_if (PW.pt (pw_and (pt_cmpR op_eq (pv 8) (pv 4) (nomark _)) (pw_and1 (PW.pt (pw_or (pt_cmp (pc_dnotin hu (pe_tup (pa_cons (pv 3) (pa_cons (pv 9) pa_nil))) (pv 2))) (pw_or1 (pt_cmpR op_lt (pe_op op_add (pv 5) (pv 10)) (pe_ix (ixT K) (pe_dget hu (pv 2) (pe_tup (pa_cons (pv 3) (pa_cons (pv 9) pa_nil))) (fun _ _ => rfl)) pe_int (fun _ _ => rfl)) (nomark _)))))))) (pss_one (ps_dput hu (pv 2) (pe_tup (pa_cons (pv 3) (pa_cons (pv 9) pa_nil))) (pe_tup (pa_cons (pe_op op_add (pv 5) (pv 10)) (pa_cons (pe_op op_catA (pv 6) (pe_tup (pa_cons (pv 7) pa_nil))) pa_nil))) rfl)) pss_nil)))))))
       (pss_one (ps_ret (pv 2))))), ?_⟩
    intro D hD
    have nDd : d ≠ D := ne_of_none hd hD
    refine ⟨d, .dT kvs, (same_new hD) _ _ hd, True.intro, fun od => ?_⟩
    refine ⟨_, rfl, d, od, rfl, .inr ⟨kvs, upd_same, ?_⟩⟩
    have base0 : SameX D (upd H d (.frz od (.dT kvs))) (upd (upd H D (.dT [])) d (.frz od (.dT kvs))) := fun b o n e => by
      by_cases hb : b = d
      · rw [hb, upd_same] at e ⊢
        exact e
      · rw [upd_ne hb] at e ⊢
        rw [upd_ne n]
        exact e
    have tl : TSame H (upd H d (.frz od (.dT kvs))) := tsame_put fun xs z => by
      rw [hd] at z
      cases z
    have hD0 : upd (upd H D (.dT [])) d (.frz od (.dT kvs)) D = some (.dT []) := by
      rw [upd_ne nDd.symm, upd_same]
    refine for_it (walk_keysT (kvs := kvs)) (fun i σ H' => (∃ v3 v4 v5 v6 v7 v8 v9 v10, σ = [some (.ref a), some (.ref d), some (.ref D), v3, v4, v5, v6, v7, v8, v9, v10]) ∧ SameX D (upd H d (.frz od (.dT kvs))) H' ∧
        WAt H' D ((m.take i).foldl (stepP (edges rs)) []) (k + 1) ∧ ((m.take i).foldl (stepP (edges rs)) []).length ≤ 8 * i)
      ⟨⟨_, _, _, _, _, _, _, _, rfl⟩, base0, ⟨[], hD0, .nil⟩, Nat.le_refl _⟩ (fun i σ H' _ p => p.2.1 _ _ nDd upd_same) ?_ ?_
    · rintro i x σ H1 H1' hi ⟨⟨v3, v4, v5, v6, v7, v8, v9, v10, rfl⟩, s1, ⟨kv1, hD1, hw1⟩, hl1⟩ ⟨rfl, ke, v, q1, hkv, rfl, hq1⟩
      obtain ⟨⟨p, pl⟩, hp1, hp2, _⟩ := paired_get hw hkv
      have hp2 : ke = ky p := hp2
      have him : i < m.length := by
        obtain ⟨z, _⟩ := List.getElem?_eq_some_iff.mp hp1
        exact z
      have hval : valM m p = some pl := valM_of_mem hnd (List.mem_of_getElem? hp1)
      obtain ⟨v', hv', wa⟩ : ∃ v', valV kvs (ky p) = some v' ∧ WkAt H v' pl k := by
        rcases hw.get p with ⟨z, _⟩ | ⟨L, v', z, z2, z3⟩
        · rw [hval] at z
          cases z
        · rw [hval] at z
          cases z
          exact ⟨v', z2, z3⟩
      subst hp2
      have nD1 : ∀ xs, H1' D ≠ some (.tup xs) := fun xs z => by
        rw [hD1] at z
        cases z
      have t1 : TSame H H1' := TSame.trans tl (s1.t fun xs z => by
        rw [upd_ne nDd.symm, hD] at z
        cases z)
      have hq2 : H1' q1 = some (.tup [.int p.1, .int p.2]) := hq1
      refine ⟨q1, _, rfl, SqT.of hq2, rfl, _, _, rfl, _, _, rfl, rfl, ?_⟩
      refine ⟨_, rfl, _, rfl, _, rfl, by show 2 ≤ sizeLine; decide, fun kq hkq => ?_⟩
      have s2 := s1.trans (Same.x (same_new (o := .tup [.int p.1, .int p.2]) hkq))
      have t2 : TSame H1' (upd H1' kq (.tup [.int p.1, .int p.2])) := Same.t (same_new hkq)
      have hD2 := same_new (o := .tup [.int p.1, .int p.2]) hkq _ _ hD1
      have hkq2 : upd H1' kq (.tup [.int p.1, .int p.2]) kq = some (.tup [.int p.1, .int p.2]) := upd_same
      generalize upd H1' kq (.tup [.int p.1, .int p.2]) = H2 at s2 t2 hD2 hkq2
      obtain ⟨wt, wk, ws, rfl, a1, a2, a3⟩ := wa.t (TSame.trans t1 t2) (Nat.le_refl _)
      refine ⟨d, .ref wt, rfl, .inr ⟨kvs, ky p, kq, .inr ⟨od, s2 _ _ nDd upd_same⟩, rfl, hkq2, hv'.symm⟩, ?_⟩
      refine ⟨wt, _, rfl, SqT.of a1, rfl, _, _, rfl, _, _, rfl, rfl, ?_⟩
      refine ⟨_, rfl, a, n, rs, rfl, hnet.t (TSame.trans t1 t2), hrs, fun H3 L s3 hL3 ⟨as, hL4, hEd⟩ => ⟨L, rfl, ⟨_, SqL.of hL4⟩, ?_⟩⟩
      have sd3 := s2.trans (Same.x s3)
      have hD3 := s3 _ _ hD2
      have hwk3 := s3 _ _ a2
      have nLD : L ≠ D := fun z => by
        rw [z, hD3] at hL4
        cases hL4
      have hw3 := (hw1.t t2 (Nat.le_refl _)).t (Same.t s3) (Nat.le_refl _)
      have nD3 : ∀ xs, H3 D ≠ some (.tup xs) := fun xs z => by
        rw [hD3] at z
        cases z
      refine for_it (walk_list (xs := as.map V.ref)) (fun j σ H' => (∃ v7 v8 v9 v10, σ = [some (.ref a), some (.ref d), some (.ref D), some (.int p.1), some (.int p.2), some (.int pl), some (.ref wk), v7, v8, v9, v10]) ∧ SameX D H3 H' ∧
          WAt H' D (((edges rs).take j).foldl (stepE p pl) ((m.take i).foldl (stepP (edges rs)) [])) (k + 1) ∧ (((edges rs).take j).foldl (stepE p pl) ((m.take i).foldl (stepP (edges rs)) [])).length ≤ 8 * i + j)
        ⟨⟨_, _, _, _, rfl⟩, SameX.refl, ⟨kv1, hD3, hw3⟩, hl1⟩ (fun j σ H' _ p => SqL.of (p.2.1 _ _ nLD hL4)) ?_ ?_
      · rintro j x σ H4 H4' hj ⟨⟨v7, v8, v9, v10, rfl⟩, s4, ⟨kv4, hD4, hw4⟩, hl4⟩ ⟨rfl, hx⟩
        rw [List.getElem?_map] at hx
        obtain ⟨pe, hpe, rfl⟩ := Option.map_eq_some_iff.mp hx
        obtain ⟨e, he1, lab, he2⟩ := paired_get hEd hpe
        have hj8 : j < 8 := by
          obtain ⟨z, _⟩ := List.getElem?_eq_some_iff.mp he1
          omega
        rw [fold_take he1]
        generalize ((edges rs).take j).foldl (stepE p pl) ((m.take i).foldl (stepP (edges rs)) []) = acc at hw4 hl4 ⊢
        have nD4 : ∀ xs, H4' D ≠ some (.tup xs) := fun xs z => by
          rw [hD4] at z
          cases z
        have t4 : TSame H3 H4' := s4.t nD3
        refine ⟨pe, _, rfl, SqT.of (t4 _ _ he2), rfl, _, _, rfl, _, _, rfl, _, _, rfl, _, _, rfl, rfl, ?_⟩
        have hz : acc.length < sizeLine := Nat.lt_of_le_of_lt (by omega : acc.length ≤ 1000000) (by decide)
        refine ⟨_, rfl, _, rfl, rfl, _, rfl, ite2 (fun z => ?_) fun z => ?_⟩
        · have ea : e.a = p.2 := V.int.inj (of_decide_eq_true z)
          have eS : stepE p pl acc e = relax acc (p.1, e.b) (pl + e.w) := if_pos ea
          rw [eS]
          have e1 := relax_eq acc (p.1, e.b) (pl + e.w)
          refine ⟨_, rfl, _, rfl, by show 2 ≤ sizeLine; decide, fun k2 hk2 => ?_⟩
          have s5 := same_new (o := .tup [.int p.1, .int e.b]) hk2
          have hk5 : upd H4' k2 (.tup [.int p.1, .int e.b]) k2 = some (.tup [.int p.1, .int e.b]) := upd_same
          generalize upd H4' k2 (.tup [.int p.1, .int e.b]) = H5 at s5 hk5
          have w5 := hw4.t (Same.t s5) (Nat.le_refl _)
          have hst : ∀ {H6 : Hp}, Same H5 H6 → ∀ H7, SameX D H6 H7 → WAt H7 D (putM acc (p.1, e.b) (pl + e.w)) (k + 1) → _ := fun {H6} s6 H7 s7 w7 =>
            (show (∃ v7 v8 v9 v10, ([some (.ref a), some (.ref d), some (.ref D), some (.int p.1), some (.int p.2), some (.int pl), some (.ref wk), some lab, some (.int e.a), some (.int e.b), some (.int e.w)] : List (Option V)) =
                [some (.ref a), some (.ref d), some (.ref D), some (.int p.1), some (.int p.2), some (.int pl), some (.ref wk), v7, v8, v9, v10]) ∧ SameX D H3 H7 ∧ WAt H7 D (putM acc (p.1, e.b) (pl + e.w)) (k + 1) from
              ⟨⟨_, _, _, _, rfl⟩, s4.trans ((Same.x (Same.trans s5 s6)).trans s7), w7⟩)
          have lp := len_put acc (p.1, e.b) (pl + e.w)
          refine ⟨_, rfl, D, _, rfl, DGet.t (k := ky (p.1, e.b)) (s5 _ _ hD4) hk5, _, rfl, ?_⟩
          rcases w5.get (p.1, e.b) with ⟨g1, g2⟩ | ⟨L0, v0, g1, g2, g3⟩
          · rw [g1] at e1
            have e1 : relax acc (p.1, e.b) (pl + e.w) = putM acc (p.1, e.b) (pl + e.w) := e1
            rw [g2]
            refine iteT (iteT (store_read (s5 _ _ hD4) w5 (Same.t s5 _ _ (t4 _ _ hwk3)) a3 hk hz fun H7 s7 w7 => ?_))
            obtain ⟨b1, b2, b3⟩ := hst (Same.refl _) H7 s7 w7
            rw [e1]
            exact ⟨b1, b2, b3, by omega⟩
          · rw [g1] at e1
            have e1 : relax acc (p.1, e.b) (pl + e.w) = if pl + e.w < L0 then putM acc (p.1, e.b) (pl + e.w) else acc := e1
            rw [g2]
            obtain ⟨t0, w0, ws0, rfl, c1, c2, c3⟩ := g3
            refine iteF ⟨_, rfl, _, rfl, _, _, rfl, rfl, _, rfl, _, rfl, _, rfl, by show 2 ≤ sizeLine; decide, fun k3 hk3 => ?_⟩
            have s6 := same_new (o := .tup [.int p.1, .int e.b]) hk3
            have hk6 : upd H5 k3 (.tup [.int p.1, .int e.b]) k3 = some (.tup [.int p.1, .int e.b]) := upd_same
            generalize upd H5 k3 (.tup [.int p.1, .int e.b]) = H6 at s6 hk6
            have s56 := Same.trans s5 s6
            refine ⟨D, .ref t0, rfl, ?_, ?_⟩
            · exact .inr ⟨kv4, ky (p.1, e.b), k3, .inl (s56 _ _ hD4), rfl, hk6, g2.symm⟩
            · refine ⟨t0, _, _, _, rfl, rfl, SqT.of (s6 _ _ c1), atI_nat (j := 0) rfl, _, _, rfl, rfl, _, rfl, ite2 (fun y => ?_) fun y => ?_⟩
              · have y' : pl + e.w < L0 := of_decide_eq_true y
                refine store_read (s56 _ _ hD4) (hw4.t (Same.t s56) (Nat.le_refl _)) (Same.t s56 _ _ (t4 _ _ hwk3)) a3 hk hz fun H7 s7 w7 => ?_
                obtain ⟨b1, b2, b3⟩ := hst s6 H7 s7 w7
                rw [e1, if_pos y']
                exact ⟨b1, b2, b3, by omega⟩
              · have y' : ¬ pl + e.w < L0 := fun q => y (decide_eq_true q)
                refine ⟨⟨_, _, _, _, rfl⟩, s4.trans (Same.x s56), ?_, ?_⟩
                · rw [e1, if_neg y']
                  exact ⟨kv4, s56 _ _ hD4, hw4.t (Same.t s56) (Nat.le_refl _)⟩
                · rw [e1, if_neg y']
                  omega
        · have ea : ¬ e.a = p.2 := fun y => z (decide_eq_true (by rw [y]))
          refine iteF ⟨⟨_, _, _, _, rfl⟩, s4, ?_, ?_⟩
          · unfold stepE
            rw [if_neg ea]
            exact ⟨kv4, hD4, hw4⟩
          · unfold stepE
            rw [if_neg ea]
            omega
      · rintro σ H4 ⟨⟨v7, v8, v9, v10, rfl⟩, s4, hw4, hl4⟩
        have el : (as.map V.ref).length = (edges rs).length := by
          rw [List.length_map]
          exact Paired.length hEd
        rw [el, List.take_length] at hw4 hl4
        refine ⟨⟨_, _, _, _, _, _, _, _, rfl⟩, sd3.trans s4, ?_, ?_⟩
        · rw [fold_take hp1]
          exact hw4
        · rw [fold_take hp1]
          show (List.foldl (stepE p pl) _ (edges rs)).length ≤ _
          omega
    · rintro σ H1 ⟨⟨v3, v4, v5, v6, v7, v8, v9, v10, rfl⟩, s1, ⟨kv1, hD1, hw1⟩, hl1⟩
      have hd1 : H1 d = some (.frz od (.dT kvs)) := s1 _ _ nDd upd_same
      rw [hw.len, List.take_length] at hw1
      refine ⟨hd1, _, rfl, q _ D (fun b o e => ?_) hD ⟨kv1, ?_, hw1.t (tsame_put fun xs z => ?_) (Nat.le_refl _)⟩⟩
      · by_cases hb : b = d
        · rw [hb, hd] at e
          rw [hb, upd_same]
          exact e
        · rw [upd_ne hb]
          refine s1 _ _ (ne_of_none e hD) ?_
          rw [upd_ne hb]
          exact e
      · rw [upd_ne nDd.symm]
        exact hD1
      · rw [hd1] at z
        cases z
end
end Ab

namespace Ab
open PySem PySem.Spec PyProof.Rows L2

theorem init_succ (i : Nat) : initM (i + 1) = putM (initM i) ((i : Int), (i : Int)) 0 := by
  have h : valM (initM i) ((i : Int), (i : Int)) = none := by
    cases e : valM (initM i) ((i : Int), (i : Int)) with
    | none => rfl
    | some x =>
      have hm := mem_keys.mpr ⟨x, e⟩
      rw [keys_init] at hm
      obtain ⟨q, hq, e2⟩ := List.mem_map.mp hm
      have hq' := List.mem_range.mp hq
      have := congrArg Prod.fst e2
      simp only at this
      omega
  rw [putM_new h]
  unfold initM
  rw [List.range_succ, List.map_append]
  rfl
theorem len_longer (es : List Ed) : ∀ (m acc : WM), (m.foldl (stepP es) acc).length ≤ acc.length + m.length * es.length
  | [], acc => by simp
  | p :: m, acc => by
    rw [List.foldl_cons, List.length_cons]
    have h1 := len_longer es m (stepP es acc p)
    have h2 := len_stepP es p acc
    rw [Nat.add_mul]
    omega
theorem len_iter {n : Nat} {es : List Ed} (hes : es.length ≤ 8) : ∀ k, (iterM n es k).length ≤ n * 8 ^ k
  | 0 => by
    unfold iterM initM
    simp
  | k + 1 => by
    have ih := len_iter (n := n) hes k
    have h := len_longer es (iterM n es k) []
    have h2 : (iterM n es k).length * es.length ≤ (n * 8 ^ k) * 8 := Nat.mul_le_mul ih hes
    unfold iterM longer
    rw [Nat.pow_succ, ← Nat.mul_assoc]
    have h3 : ([] : WM).length = 0 := rfl
    omega
section
variable {P : Program} {w : World} {K : PySem.W.Frag} {mg : Str → Option Value} {base : Heap}
/-- the reading of {(event, event): (0, ()) for event in range(net[0])}, the event in slot e -/
theorem init_read {e n : Nat} {σ : L2.St} {H : Hp} {a t : Addr} {Q : VK} (h0 : σ[0]? = some (some (.ref a))) (ha : H a = some (.tup [.int n, .ref t])) (hn : n ≤ 100) (he : e < σ.length)
    (q : ∀ H' D, Same H H' → H D = none → WAt H' D (initM n) 0 → Q (.ref D) H') :
    tDcT (iRng1 (tCons (tOp (rIxT K) (tVar 0) (tC (.int 0))) tNil)) (gName e) (tTup (tCons (tVar e) (tCons (tVar e) tNil))) (tTup (tCons (tC (.int 0)) (tCons (tTup tNil) tNil))) [e] σ H Q := by
  refine ⟨_, h0, a, _, _, _, rfl, rfl, SqT.of ha, atI_nat (j := 0) rfl, n, rfl, by omega, by omega, fun D hD => ?_⟩
  rw [Int.toNat_natCast]
  refine dcT_it (walk_range (lo := 0) (n := n)) (fun i H' => Same H H' ∧ WAt H' D (initM i) 0 ∧ (initM i).length ≤ 100) ⟨same_new hD, ⟨[], upd_same, .nil⟩, Nat.zero_le _⟩ (fun _ _ _ _ => True.intro) ?_ fun H' p => q H' D p.1 hD p.2.1
  rintro i x H1 H1' hi ⟨s1, ⟨kvs, hD1, hw1⟩, hl⟩ ⟨rfl, rfl⟩
  have hv : ((σ.set e none).set e (some (.int (0 + (i : Nat)))))[e]? = some (some (.int (0 + (i : Nat)))) := List.getElem?_set_self (by rw [List.length_set]; exact he)
  refine ⟨?_, _, hv, _, hv, by show 2 ≤ sizeLine; decide, fun p1 h1 => ⟨by show 0 ≤ sizeLine; decide, fun p2 h2 => ⟨by show 2 ≤ sizeLine; decide, fun p3 h3 => ?_⟩⟩⟩
  · show ((σ.set e none).set e (some _)).set e none = σ.set e none
    rw [List.set_set, List.set_set]
  have z : (0 : Int) + (i : Nat) = (i : Nat) := by omega
  rw [z] at h2 h3 ⊢
  have a1 : upd H1' p1 (.tup [.int (i : Nat), .int (i : Nat)]) p1 = some (.tup [.int (i : Nat), .int (i : Nat)]) := upd_same
  have s2 := same_new (o := .tup [.int (i : Nat), .int (i : Nat)]) h1
  generalize upd H1' p1 (.tup [.int (i : Nat), .int (i : Nat)]) = H2 at a1 s2 h2 h3 ⊢
  have a2 : upd H2 p2 (.tup []) p2 = some (.tup []) := upd_same
  have s3 := same_new (o := .tup []) h2
  generalize upd H2 p2 (.tup []) = H3 at a2 s3 h3 ⊢
  have a3 : upd H3 p3 (.tup [.int 0, .ref p2]) p3 = some (.tup [.int 0, .ref p2]) := upd_same
  have s4 := same_new (o := .tup [.int 0, .ref p2]) h3
  generalize upd H3 p3 (.tup [.int 0, .ref p2]) = H4 at a3 s4 ⊢
  have s14 := Same.trans s2 (Same.trans s3 s4)
  refine ⟨kvs, ky ((i : Int), (i : Int)), p1, rfl, (Same.trans s3 s4) _ _ a1, s14 _ _ hD1, ?_, same_mut (Same.trans s1 s14) hD, ?_, ?_⟩
  · rw [hw1.len]
    exact Nat.lt_of_le_of_lt hl (by decide)
  · rw [init_succ]
    exact wat_put (s14 _ _ hD1) (hw1.t (Same.t s14) (Nat.le_refl _)) ⟨p3, p2, [], rfl, a3, s4 _ _ a2, Nat.le_refl _⟩
  · unfold initM
    rw [List.length_map, List.length_range]
    omega

theorem init_stmt {e n i : Nat} {σ : L2.St} {H : Hp} {a t : Addr} {E : Ends} {u : TS} (h0 : σ[0]? = some (some (.ref a))) (ha : H a = some (.tup [.int n, .ref t])) (hn : n ≤ 100) (he : e < σ.length)
    (q : ∀ H' D, Same H H' → H D = none → WAt H' D (initM n) 0 → u E (σ.set i (some (.ref D))) H') :
    tSeq (tAsg (tDcT (iRng1 (tCons (tOp (rIxT K) (tVar 0) (tC (.int 0))) tNil)) (gName e) (tTup (tCons (tVar e) (tCons (tVar e) tNil))) (tTup (tCons (tC (.int 0)) (tCons (tTup tNil) tNil))) [e]) (gName i)) u E σ H := by
  show tDcT _ _ _ _ _ σ H (fun x H1 => u E (σ.set i (some x)) H1)
  exact init_read h0 ha hn he q

def spFirst : Sp := fun vs H Q _ => ∃ (a : Addr) (n : Nat) (rs : List Rl), vs = [.ref a] ∧ NetAt H a n rs ∧ NetOk n rs ∧
  ∀ H' v, Same H H' → (hasRound n (edges rs) = true → ∃ b, v = V.ref b) → (hasRound n (edges rs) = false → v = .non) → Q v H'
theorem scFirst : FnScope ["net", "event", "walks", "turn"] ["net"] (defScope (top 16)) := ⟨rfl, rfl, rfl, by decide +kernel, rfl, by decide +kernel, by decide +kernel⟩
theorem okFirst (T : Txt K mg) (cL : Cal P w K mg base 2 "longer_walks" spLonger) {f : Addr} {fd : FuncData} (F : Fun K "first_round" "first_round" (top 16) f fd) : FnOk P w K mg base CX0 3 f fd ["net"] spFirst := by
  refine F.ok scFirst (fun vs H Q E h => ?_) (fun cdv A outer s H vs Q E hr h => ?_)
  · obtain ⟨a, n, rs, rfl, _⟩ := h
    rfl
  · obtain ⟨a, n, rs, rfl, ⟨t, ha, hrs⟩, hok, q⟩ := h
    have hu := hu_of hr
    have n3 := hok.n3
    have hes : (edges rs).length ≤ 8 := by
      have := len_edges rs
      have := hok.len
      omega
    refine ⟨_, (pss_cons (ps_setDcT (i := 2) (own := [("event", 1)]) (g := gName 1)  hr.units0 rfl scFirst.nd rfl rfl (swap_dict rfl rfl rfl (by decide +kernel)) (pi_range1 (by rfl) T.bRange (pa_cons (pe_ix (ixT K) (pv 0) pe_int (fun _ _ => rfl)) pa_nil)) (blkOk_by (N := ["net", "event", "walks", "turn"]) (sc := (defScope (top 16))) (by decide +kernel)) (fun _ _ _ _ _ => pg_name (i := 1) scFirst.nd rfl (Or.inl rfl)) (fun _ _ _ _ _ => (pe_tup (pa_cons (pv 1) (pa_cons (pv 1) pa_nil)))) (fun _ _ _ _ _ => (pe_tup (pa_cons pe_int (pa_cons (pe_tup pa_nil) pa_nil)))))
       (pss_cons (ps_for PassesOwn.never rfl (pi_range1 (by rfl) T.bRange (pa_cons (pe_ix (ixT K) (pv 0) pe_int (fun _ _ => rfl)) pa_nil)) (pg_name (i := 3) scFirst.nd rfl (Or.inl rfl)) (pss_cons (ps_set (i := 2) scFirst.nd rfl (Or.inl rfl) (pe_k cL hr (by decide) (by rfl) (pa_cons (pv 0) (pa_cons (pv 2) pa_nil)))) (pss_one (ps_for PassesOwn.never rfl (pi_range1 (by rfl) T.bRange (pa_cons (pe_ix (ixT K) (pv 0) pe_int (fun _ _ => rfl)) pa_nil)) (pg_name (i := 1) scFirst.nd rfl (Or.inl rfl)) (pss_one (ps_if (PW.pt (pw_and (pt_cmp (pc_din hu (pe_tup (pa_cons (pv 1) (pa_cons (pv 1) pa_nil))) (pv 2))) (pw_and1 (pt_cmpR op_lt (pe_ix (ixT K) (pe_dget hu (pv 2) (pe_tup (pa_cons (pv 1) (pa_cons (pv 1) pa_nil))) (fun _ _ => rfl)) pe_int (fun _ _ => rfl)) pe_int (nomark _))))) (pss_one (ps_ret (pe_ix (ixT K) (pe_dget hu (pv 2) (pe_tup (pa_cons (pv 1) (pa_cons (pv 1) pa_nil))) (fun _ _ => rfl)) pe_int (fun _ _ => rfl)))) pss_nil))))))
       (pss_one (ps_ret pe_non)))), ?_⟩
    refine init_stmt (e := 1) (n := n) rfl ha (by have := hok.n3; omega) (by show 1 < 4; decide) fun H0 D0 s0 hD0 hw0 => ?_
    refine ⟨_, rfl, a, _, _, _, rfl, rfl, SqT.of (s0 _ _ ha), atI_nat (j := 0) rfl, n, rfl, by omega, by omega, ?_⟩
    rw [Int.toNat_natCast]
    refine for_range (lo := 0) (n := n) (fun i σ H' => (∃ v1 D v3, σ = [some (.ref a), v1, some (.ref D), v3] ∧ WAt H' D (iterM n (edges rs) i) i) ∧ Same H H' ∧ ∀ t, t < i → negM n (iterM n (edges rs) (t + 1)) = false)
      ⟨⟨_, _, _, rfl, hw0⟩, s0, fun t ht => absurd ht (Nat.not_lt_zero _)⟩ ?_ ?_
    · rintro i σ H1 hi ⟨⟨v1, D, v3, rfl, hw1⟩, s1, hno⟩
      have hi3 : i ≤ 2 := by
        have := hok.n3
        omega
      have hlen : (iterM n (edges rs) i).length ≤ 100000 := by
        have h1 := len_iter (n := n) hes i
        have h2 : 8 ^ i ≤ 8 ^ 2 := Nat.pow_le_pow_right (by omega) hi3
        have h3 : n * 8 ^ i ≤ 3 * 8 ^ 2 := Nat.mul_le_mul hok.n3 h2
        omega
      refine ⟨_, rfl, _, rfl, a, D, n, rs, _, i, rfl, ⟨t, s1 _ _ ha, hrs.same s1⟩, hok.len, hw1, (isMin_iter n (edges rs) i).nd, hlen, by omega, fun H2 D2 s2 hD2 hw2 => ?_⟩
      have s12 := Same.trans s1 s2
      refine ⟨_, rfl, a, _, _, _, rfl, rfl, SqT.of (s12 _ _ ha), atI_nat (j := 0) rfl, n, rfl, by omega, by omega, ?_⟩
      rw [Int.toNat_natCast]
      have hw2 : WAt H2 D2 (iterM n (edges rs) (i + 1)) (i + 1) := hw2
      obtain ⟨kvs, hD2', hwd⟩ := hw2
      refine for_range (lo := 0) (n := n) (fun j σ H' => (∃ v1 v3, σ = [some (.ref a), v1, some (.ref D2), v3]) ∧ Same H2 H' ∧ ∀ e : Nat, e < j → negAt (iterM n (edges rs) (i + 1)) e = false)
        ⟨⟨_, _, rfl⟩, Same.refl _, fun e he => absurd he (Nat.not_lt_zero _)⟩ ?_ ?_
      · rintro j σ H3 hj ⟨⟨v1, v3, rfl⟩, s3, hne⟩
        have z : (0 : Int) + (j : Nat) = (j : Nat) := by omega
        rw [z]
        refine ⟨_, rfl, _, rfl, by show 2 ≤ sizeLine; decide, fun p1 h1 => ⟨_, rfl, D2, _, rfl, DGet.t (k := ky ((j : Int), (j : Int))) (same_new h1 _ _ (s3 _ _ hD2')) upd_same, _, rfl, ?_⟩⟩
        have s4 := Same.trans s3 (same_new (o := .tup [.int (j : Nat), .int (j : Nat)]) h1)
        generalize upd H3 p1 (.tup [.int (j : Nat), .int (j : Nat)]) = H4 at s4
        have go : ∀ {H5 : Hp}, Same H2 H5 → negAt (iterM n (edges rs) (i + 1)) j = false → (∃ u1 u3, ([some (.ref a), some (.int (j : Nat)), some (.ref D2), v3] : List (Option V)) = [some (.ref a), u1, some (.ref D2), u3]) ∧ Same H2 H5 ∧ ∀ e : Nat, e < j + 1 → negAt (iterM n (edges rs) (i + 1)) e = false := fun {H5} s5 hz =>
          ⟨⟨_, _, rfl⟩, s5, fun e he => by
            by_cases q : e = j
            · rw [q]
              exact hz
            · exact hne e (by omega)⟩
        rcases (hwd.t (Same.t s4) (Nat.le_refl _)).get ((j : Int), (j : Int)) with ⟨g1, g2⟩ | ⟨L0, v0, g1, g2, t0, w0, ws0, rfl, c1, c2, c3⟩
        · rw [g2]
          exact iteF (iteF (go s4 (by unfold negAt; rw [g1])))
        · rw [g2]
          refine iteT ⟨_, rfl, _, rfl, _, rfl, by show 2 ≤ sizeLine; decide, fun p2 h2 => ?_⟩
          have s5 := same_new (o := .tup [.int (j : Nat), .int (j : Nat)]) h2
          have hk5 : upd H4 p2 (.tup [.int (j : Nat), .int (j : Nat)]) p2 = some (.tup [.int (j : Nat), .int (j : Nat)]) := upd_same
          generalize upd H4 p2 (.tup [.int (j : Nat), .int (j : Nat)]) = H5 at s5 hk5
          have s45 := Same.trans s4 s5
          refine ⟨D2, .ref t0, rfl, .inr ⟨kvs, ky ((j : Int), (j : Int)), p2, .inl (s45 _ _ hD2'), rfl, hk5, g2.symm⟩, t0, _, _, _, rfl, rfl, SqT.of (s5 _ _ c1), atI_nat (j := 0) rfl, _, _, rfl, rfl, _, rfl, ite2 (fun y => ?_) fun y => ?_⟩
          · have y' : L0 < 0 := of_decide_eq_true y
            have hyes : hasRound n (edges rs) = true := List.any_eq_true.mpr ⟨i, List.mem_range.mpr hi, List.any_eq_true.mpr ⟨j, List.mem_range.mpr hj, by unfold negAt; rw [g1]; exact y⟩⟩
            refine ⟨_, rfl, _, rfl, _, rfl, by show 2 ≤ sizeLine; decide, fun p3 h3 => ?_⟩
            have s6 := same_new (o := .tup [.int (j : Nat), .int (j : Nat)]) h3
            have hk6 : upd H5 p3 (.tup [.int (j : Nat), .int (j : Nat)]) p3 = some (.tup [.int (j : Nat), .int (j : Nat)]) := upd_same
            generalize upd H5 p3 (.tup [.int (j : Nat), .int (j : Nat)]) = H6 at s6 hk6
            refine ⟨D2, .ref t0, rfl, .inr ⟨kvs, ky ((j : Int), (j : Int)), p3, .inl (Same.trans s45 s6 _ _ hD2'), rfl, hk6, g2.symm⟩, t0, _, _, _, rfl, rfl, SqT.of (Same.trans s5 s6 _ _ c1), atI_nat (j := 1) rfl, ?_⟩
            exact q H6 _ (Same.trans s12 (Same.trans s45 s6)) (fun _ => ⟨w0, rfl⟩) fun z => by
              rw [hyes] at z
              cases z
          · exact go s45 (by unfold negAt; rw [g1]; exact decide_eq_false fun z => y (decide_eq_true z))
      · rintro σ H3 ⟨⟨v1, v3, rfl⟩, s3, hne⟩
        refine ⟨⟨_, _, _, rfl, kvs, s3 _ _ hD2', hwd.t (Same.t s3) (Nat.le_refl _)⟩, Same.trans s12 s3, fun t ht => ?_⟩
        by_cases e : t = i
        · subst e
          exact List.any_eq_false.mpr fun x hx => by rw [hne x (List.mem_range.mp hx)]; exact Bool.false_ne_true
        · exact hno t (by omega)
    · rintro σ H1 ⟨⟨v1, D, v3, rfl, hw1⟩, s1, hno⟩
      have hf : hasRound n (edges rs) = false := List.any_eq_false.mpr fun x hx => by rw [hno x (List.mem_range.mp hx)]; exact Bool.false_ne_true
      exact q H1 _ s1 (fun z => by rw [hf] at z; cases z) fun _ => rfl
end
end Ab

namespace Ab
open PySem PySem.Spec PyProof.Rows L2

theorem take_put {m : WM} {i : Nat} {p : Int × Int} {L : Int} (hn : (keysM m).Nodup) (h : m[i]? = some (p, L)) : putM (m.take i) p L = m.take (i + 1) := by
  have e : valM (m.take i) p = none := by
    cases e : valM (m.take i) p with
    | none => rfl
    | some x =>
      have hm := mem_keys.mpr ⟨x, e⟩
      obtain ⟨q, hq, e2⟩ := List.mem_map.mp hm
      obtain ⟨j, hj⟩ := List.mem_iff_getElem?.mp hq
      have hji : j < i := by
        obtain ⟨z, _⟩ := List.getElem?_eq_some_iff.mp hj
        rw [List.length_take] at z
        omega
      rw [List.getElem?_take, if_pos hji] at hj
      have a1 : (keysM m)[j]? = some p := by
        unfold keysM
        rw [List.getElem?_map, hj, ← e2]
        rfl
      have a2 : (keysM m)[i]? = some p := by
        unfold keysM
        rw [List.getElem?_map, h]
        rfl
      have := nd_ix hn a1 a2
      omega
  rw [putM_new e, List.take_add_one, h]
  rfl
section
variable {P : Program} {w : World} {K : PySem.W.Frag} {mg : Str → Option Value} {base : Heap}
def spWith : Sp := fun vs H Q _ => ∃ (d pr : Addr) (v : V) (m : WM) (k : Nat) (p : Int × Int) (L : Int), vs = [.ref d, .ref pr, v] ∧ WAt H d m k ∧ (keysM m).Nodup ∧ m.length ≤ 100000 ∧ H pr = some (.tup [.int p.1, .int p.2]) ∧ WkAt H v L k ∧
  ∀ H' D, Same H H' → H D = none → WAt H' D (putM m p L) k → Q (.ref D) H'
theorem scWith : FnScope ["best", "pair", "value", "found", "key"] ["best", "pair", "value"] (defScope (top 18)) := ⟨rfl, rfl, rfl, by decide +kernel, rfl, by decide +kernel, by decide +kernel⟩
theorem okWith (T : Txt K mg) {f : Addr} {fd : FuncData} (F : Fun K "with_walk" "with_walk" (top 18) f fd) : FnOk P w K mg base CX0 1 f fd ["best", "pair", "value"] spWith := by
  refine F.ok scWith (fun vs H Q E h => ?_) (fun cdv A outer s H vs Q E hr h => ?_)
  · obtain ⟨d, pr, v, m, k, p, L, rfl, _⟩ := h
    rfl
  · obtain ⟨d, pr, v, m, k, p, L, rfl, ⟨kvs, hd, hw⟩, hn, hml, hpr, hv, q⟩ := h
    have hu := hu_of hr
    refine ⟨_, (pss_cons (ps_lock (ps_setDcT (i := 3) (own := [("key", 4)]) (g := gName 4)  hr.units0 rfl scWith.nd rfl rfl (swap_dict rfl rfl rfl (by decide +kernel)) (pi_keys (pv 0)) (blkOk_by (N := ["best", "pair", "value", "found", "key"]) (sc := (defScope (top 18))) (by decide +kernel)) (fun _ _ _ _ _ => pg_name (i := 4) scWith.nd rfl (Or.inl rfl)) (fun _ _ _ _ _ => (pv 4)) (fun _ _ _ _ _ => (pe_dget hu (pv 0) (pv 4) (fun _ _ => rfl)))))
       (pss_cons (ps_dput hu (pv 3) (pv 1) (pv 2) rfl)
       (pss_one (ps_ret (pv 3))))), ?_⟩
    refine ⟨d, .dT kvs, hd, True.intro, fun od => ?_⟩
    refine ⟨_, rfl, d, od, rfl, .inr ⟨kvs, upd_same, fun D hD => ?_⟩⟩
    have tl : TSame H (upd H d (.frz od (.dT kvs))) := tsame_put fun xs z => by
      rw [hd] at z
      cases z
    have nDd : D ≠ d := fun z => by
      rw [z, upd_same] at hD
      cases hD
    have hD0 : H D = none := by
      rw [upd_ne nDd] at hD
      exact hD
    have hld : upd H d (.frz od (.dT kvs)) d = some (.frz od (.dT kvs)) := upd_same
    have back : ∀ {H1 : Hp}, Same (upd H d (.frz od (.dT kvs))) H1 → Same H (upd H1 d (.dT kvs)) := fun {H1} s b o e => by
      by_cases hb : b = d
      · rw [hb, hd] at e
        rw [hb, upd_same]
        exact e
      · rw [upd_ne hb]
        refine s _ _ ?_
        rw [upd_ne hb]
        exact e
    generalize upd H d (.frz od (.dT kvs)) = Hl at hD tl hld back
    refine dcT_it (walk_keysT (kvs := kvs)) (fun i H' => Same Hl H' ∧ WAt H' D (m.take i) k) ⟨same_new hD, ⟨[], upd_same, .nil⟩⟩ (fun i H' _ p => p.1 _ _ hld) ?_ ?_
    · rintro i x H1 H1' hi ⟨s1, ⟨kv1, hD1, hw1⟩⟩ ⟨rfl, ke, v1, q1, hkv, rfl, hq1⟩
      obtain ⟨⟨p1, pl⟩, hp1, hp2, hp3⟩ := paired_get hw hkv
      have hp2 : ke = ky p1 := hp2
      subst hp2
      have t1 := TSame.trans tl (Same.t s1)
      obtain ⟨v', hv', wa⟩ : ∃ v', valV kvs (ky p1) = some v' ∧ WkAt H v' pl k := by
        have hval : valM m p1 = some pl := valM_of_mem hn (List.mem_of_getElem? hp1)
        rcases hw.get p1 with ⟨z, _⟩ | ⟨L', v', z, z2, z3⟩
        · rw [hval] at z
          cases z
        · rw [hval] at z
          cases z
          exact ⟨v', z2, z3⟩
      refine ⟨rfl, _, rfl, _, rfl, _, rfl, d, v', rfl, .inr ⟨kvs, ky p1, q1, .inr ⟨od, s1 _ _ hld⟩, rfl, hq1, hv'.symm⟩, kv1, ky p1, q1, rfl, hq1, hD1, ?_, same_mut s1 hD, ?_⟩
      · rw [hw1.len, List.length_take]
        exact Nat.lt_of_le_of_lt (by omega : _ ≤ 100000) (by decide)
      · rw [← take_put hn hp1]
        exact wat_put hD1 hw1 (wa.t t1 (Nat.le_refl _))
    · rintro H1 ⟨s1, ⟨kv1, hD1, hw1⟩⟩
      rw [hw.len, List.take_length] at hw1
      have hd1 := s1 _ _ hld
      have sb := back s1
      have hD2 : upd H1 d (.dT kvs) D = some (.dT kv1) := by
        rw [upd_ne nDd]
        exact hD1
      have hw2 : WD (upd H1 d (.dT kvs)) k kv1 m := hw1.t (tsame_put fun xs z => by rw [hd1] at z; cases z) (Nat.le_refl _)
      refine ⟨hd1, ?_⟩
      generalize upd H1 d (.dT kvs) = H2 at sb hD2 hw2
      refine ⟨_, rfl, _, rfl, _, rfl, D, _, rfl, DPut.t (k := ky p) hD2 (sb _ _ hpr) ?_, _, rfl, q _ D (same_mut sb hD0) hD0 (wat_put hD2 hw2 (hv.t (Same.t sb) (Nat.le_refl _)))⟩
      rw [hw2.len]
      exact Nat.lt_of_le_of_lt hml (by decide)

theorem len_best {n : Nat} {es : List Ed} (hes : es.length ≤ 8) : ∀ k, (bestM n es k).length ≤ 2 * (n * 8 ^ k)
  | 0 => by
    unfold bestM initM
    rw [List.length_map, List.length_range, Nat.pow_zero]
    omega
  | k + 1 => by
    have ih := len_best (n := n) hes k
    have h1 := len_iter (n := n) hes (k + 1)
    have h2 := len_relaxes (iterM n es (k + 1)) (bestM n es k)
    have e : n * 8 ^ (k + 1) = n * 8 ^ k * 8 := by rw [Nat.pow_succ, Nat.mul_assoc]
    unfold bestM
    rw [e] at h1 ⊢
    omega
def spShort : Sp := fun vs H Q _ => ∃ (a : Addr) (n : Nat) (rs : List Rl), vs = [.ref a] ∧ NetAt H a n rs ∧ NetOk n rs ∧ ∀ H' D, Same H H' → WAt H' D (finalM n (edges rs)) n → Q (.ref D) H'
theorem scShort : FnScope ["net", "best", "walks", "turn", "pair", "event"] ["net"] (defScope (top 17)) := ⟨rfl, rfl, rfl, by decide +kernel, rfl, by decide +kernel, by decide +kernel⟩
theorem okShort (T : Txt K mg) (cL : Cal P w K mg base 2 "longer_walks" spLonger) (cW : Cal P w K mg base 1 "with_walk" spWith) {f : Addr} {fd : FuncData} (F : Fun K "shortest_walks" "shortest_walks" (top 17) f fd) : FnOk P w K mg base CX0 3 f fd ["net"] spShort := by
  refine F.ok scShort (fun vs H Q E h => ?_) (fun cdv A outer s H vs Q E hr h => ?_)
  · obtain ⟨a, n, rs, rfl, _⟩ := h
    rfl
  · obtain ⟨a, n, rs, rfl, ⟨t, ha, hrs⟩, hok, q⟩ := h
    have hu := hu_of hr
    have n3 := hok.n3
    have n1 := hok.n1
    have hes : (edges rs).length ≤ 8 := by
      have := len_edges rs
      have := hok.len
      omega
    have pw : ∀ k, k ≤ 3 → n * 8 ^ k ≤ 1536 := fun k hk => by
      have h2 : 8 ^ k ≤ 8 ^ 3 := Nat.pow_le_pow_right (by omega) hk
      have h3 : n * 8 ^ k ≤ 3 * 8 ^ 3 := Nat.mul_le_mul n3 h2
      omega
    refine ⟨_, (pss_cons (ps_setDcT (i := 1) (own := [("event", 5)]) (g := gName 5)  hr.units0 rfl scShort.nd rfl rfl (swap_dict rfl rfl rfl (by decide +kernel)) (pi_range1 (by rfl) T.bRange (pa_cons (pe_ix (ixT K) (pv 0) pe_int (fun _ _ => rfl)) pa_nil)) (blkOk_by (N := ["net", "best", "walks", "turn", "pair", "event"]) (sc := (defScope (top 17))) (by decide +kernel)) (fun _ _ _ _ _ => pg_name (i := 5) scShort.nd rfl (Or.inl rfl)) (fun _ _ _ _ _ => (pe_tup (pa_cons (pv 5) (pa_cons (pv 5) pa_nil)))) (fun _ _ _ _ _ => (pe_tup (pa_cons pe_int (pa_cons (pe_tup pa_nil) pa_nil)))))
       (pss_cons (ps_set (i := 2) scShort.nd rfl (Or.inl rfl) (pv 1))
       (pss_cons (ps_for PassesOwn.never rfl (pi_range1 (by rfl) T.bRange (pa_cons (pe_op op_sub (pe_ix (ixT K) (pv 0) pe_int (fun _ _ => rfl)) pe_int) pa_nil)) (pg_name (i := 3) scShort.nd rfl (Or.inl rfl)) (pss_cons (ps_set (i := 2) scShort.nd rfl (Or.inl rfl) (pe_k cL hr (by decide) (by rfl) (pa_cons (pv 0) (pa_cons (pv 2) pa_nil)))) (pss_one (ps_lock (ps_for PassesOwn.never rfl (pi_keys (pv 2)) (pg_name (i := 4) scShort.nd rfl (Or.inl rfl)) (pss_one (ps_if (PW.pt (pw_or (pt_cmp (pc_dnotin hu (pv 4) (pv 1))) (pw_or1 (pt_cmpR op_lt (pe_ix (ixT K) (pe_dget hu (pv 2) (pv 4) (fun _ _ => rfl)) pe_int (fun _ _ => rfl)) (pe_ix (ixT K) (pe_dget hu (pv 1) (pv 4) (fun _ _ => rfl)) pe_int (fun _ _ => rfl)) (nomark _))))) (pss_one (ps_set (i := 1) scShort.nd rfl (Or.inl rfl) (pe_k cW hr (by decide) (by rfl) (pa_cons (pv 1) (pa_cons (pv 4) (pa_cons (pe_dget hu (pv 2) (pv 4) (fun _ _ => rfl)) pa_nil)))))) pss_nil)))))))
       (pss_one (ps_ret (pv 1)))))), ?_⟩
    refine init_stmt (e := 5) (n := n) rfl ha (by omega) (by show 5 < 6; decide) fun H0 D0 s0 hD0 hw0 => ?_
    refine ⟨_, rfl, _, rfl, a, _, _, _, rfl, rfl, SqT.of (s0 _ _ ha), atI_nat (j := 0) rfl, _, _, rfl, rfl, (n : Int) - 1, rfl, by omega, by omega, ?_⟩
    have en : ((n : Int) - 1).toNat = n - 1 := by omega
    rw [en]
    refine for_range (lo := 0) (n := n - 1) (fun i σ H' => (∃ B D v3 v4, σ = [some (.ref a), some (.ref B), some (.ref D), v3, v4, none] ∧ WAt H' B (bestM n (edges rs) i) i ∧ WAt H' D (iterM n (edges rs) i) i) ∧ Same H H')
      ⟨⟨D0, D0, _, _, rfl, hw0, hw0⟩, s0⟩ ?_ ?_
    · rintro i σ H1 hi ⟨⟨B, D, v3, v4, rfl, hwB, hwD⟩, s1⟩
      have hi1 : i ≤ 1 := by omega
      have hl1 := len_iter (n := n) hes i
      have hl2 := pw i (by omega)
      refine ⟨_, rfl, _, rfl, a, D, n, rs, _, i, rfl, ⟨t, s1 _ _ ha, hrs.same s1⟩, hok.len, hwD, (isMin_iter n (edges rs) i).nd, by omega, by omega, fun H2 D2 s2 hD2 hw2 => ?_⟩
      have s12 := Same.trans s1 s2
      have hw2 : WAt H2 D2 (iterM n (edges rs) (i + 1)) (i + 1) := hw2
      have hnd := (isMin_iter n (edges rs) (i + 1)).nd
      have hnb := (isMin_best n (edges rs) i).nd
      have hl3 := len_iter (n := n) hes (i + 1)
      have hl4 := pw (i + 1) (by omega)
      have hl5 := len_best (n := n) hes i
      have ebest : bestM n (edges rs) (i + 1) = relaxes (bestM n (edges rs) i) (iterM n (edges rs) (i + 1)) := rfl
      generalize iterM n (edges rs) (i + 1) = m at hw2 hnd hl3 ebest
      generalize bestM n (edges rs) i = bm at hwB hnb hl5 ebest
      obtain ⟨kvs, hd2, hwd⟩ := hw2
      obtain ⟨kb, hB, hwb⟩ := hwB
      have nB : B ≠ D2 := ne_of_none hB hD2
      refine ⟨D2, .dT kvs, hd2, True.intro, fun od => ?_⟩
      refine ⟨_, rfl, D2, od, rfl, .inr ⟨kvs, upd_same, ?_⟩⟩
      have tl : TSame H2 (upd H2 D2 (.frz od (.dT kvs))) := tsame_put fun xs z => by
        rw [hd2] at z
        cases z
      have hld : upd H2 D2 (.frz od (.dT kvs)) D2 = some (.frz od (.dT kvs)) := upd_same
      have hlB : upd H2 D2 (.frz od (.dT kvs)) B = some (.dT kb) := by
        rw [upd_ne nB]
        exact s2 _ _ hB
      have back : ∀ {H3 : Hp}, Same (upd H2 D2 (.frz od (.dT kvs))) H3 → Same H2 (upd H3 D2 (.dT kvs)) := fun {H3} s b o e => by
        by_cases hb : b = D2
        · rw [hb, hd2] at e
          rw [hb, upd_same]
          exact e
        · rw [upd_ne hb]
          refine s _ _ ?_
          rw [upd_ne hb]
          exact e
      have hwl := hwd.t tl (Nat.le_refl _)
      have hwbl := (hwb.t (Same.t s2) (Nat.le_refl _)).t tl (Nat.le_succ i)
      generalize upd H2 D2 (.frz od (.dT kvs)) = Hl at tl hld hlB back hwl hwbl
      refine for_it (walk_keysT (kvs := kvs)) (fun j σ H' => (∃ B' v3 v4, σ = [some (.ref a), some (.ref B'), some (.ref D2), v3, v4, none] ∧ B' ≠ D2 ∧ WAt H' B' (relaxes bm (m.take j)) (i + 1)) ∧ Same Hl H')
        ⟨⟨B, _, _, rfl, nB, kb, hlB, hwbl⟩, Same.refl _⟩ (fun j σ H' _ p => p.2 _ _ hld) ?_ ?_
      · rintro j x σ H3 H3' hj ⟨⟨B', v3, v4, rfl, nB', kb', hB', hwb'⟩, s3⟩ ⟨rfl, ke, v0, q1, hkv, rfl, hq1⟩
        obtain ⟨⟨p, pl⟩, hp1, hp2, _⟩ := paired_get hwd hkv
        have hp2 : ke = ky p := hp2
        subst hp2
        have hjm : j < m.length := by
          obtain ⟨z, _⟩ := List.getElem?_eq_some_iff.mp hp1
          exact z
        obtain ⟨v', hv', wa⟩ : ∃ v', valV kvs (ky p) = some v' ∧ WkAt Hl v' pl (i + 1) := by
          have hval : valM m p = some pl := valM_of_mem hnd (List.mem_of_getElem? hp1)
          rcases hwl.get p with ⟨z, _⟩ | ⟨L', v', z, z2, z3⟩
          · rw [hval] at z
            cases z
          · rw [hval] at z
            cases z
            exact ⟨v', z2, z3⟩
        have wa3 := wa.t (Same.t s3) (Nat.le_refl _)
        have hq2 : H3' q1 = some (.tup [.int p.1, .int p.2]) := hq1
        have gD : DGet H3' D2 (.ref q1) (some v') := .inr ⟨kvs, ky p, q1, .inr ⟨od, s3 _ _ hld⟩, rfl, hq1, hv'.symm⟩
        have eR : relaxes bm (m.take (j + 1)) = relax (relaxes bm (m.take j)) p pl := fold_take hp1
        have hna := nd_relaxes (cs := m.take j) hnb
        have hla : (relaxes bm (m.take j)).length ≤ 100000 := by
          have z1 := len_relaxes (m.take j) bm
          rw [List.length_take] at z1
          have z2 := pw i (by omega)
          omega
        rw [eR]
        have e1 := relax_eq (relaxes bm (m.take j)) p pl
        generalize relaxes bm (m.take j) = acc at hwb' eR hna hla e1 ⊢
        have store : ∀ {W : List (Option V) → Hp → Prop}, (∀ H4 D4, Same H3' H4 → H3' D4 = none → WAt H4 D4 (putM acc p pl) (i + 1) → W [some (.ref a), some (.ref D4), some (.ref D2), v3, some (.ref q1), none] H4) →
            tCall spWith [] E0 (tCons (tVar 1) (tCons (tVar 4) (tCons (tDGet (tVar 2) (tVar 4)) tNil))) [some (.ref a), some (.ref B'), some (.ref D2), v3, some (.ref q1), none] H3' fun x H1 => W ([some (.ref a), some x, some (.ref D2), v3, some (.ref q1), none]) H1 := fun {W} h =>
          ⟨_, rfl, _, rfl, _, rfl, _, rfl, D2, v', rfl, gD, B', q1, v', acc, i + 1, p, pl, rfl, ⟨kb', hB', hwb'⟩, hna, hla, hq2, wa3, fun H4 D4 s4 h4 w4 => h H4 D4 s4 h4 w4⟩
        refine ⟨_, rfl, _, rfl, B', _, rfl, DGet.t (k := ky p) hB' hq1, _, rfl, ?_⟩
        rcases hwb'.get p with ⟨g1, g2⟩ | ⟨L0, v0, g1, g2, t0, w0, ws0, rfl, c1, c2, c3⟩
        · rw [g1] at e1
          have e1 : relax acc p pl = putM acc p pl := e1
          rw [g2, e1]
          refine iteT (iteT (store fun H4 D4 s4 h4 w4 => ⟨⟨D4, _, _, rfl, fun z => ?_, w4⟩, Same.trans s3 s4⟩))
          have h5 := s3 _ _ hld
          rw [← z, h4] at h5
          cases h5
        · rw [g1] at e1
          have e1 : relax acc p pl = if pl < L0 then putM acc p pl else acc := e1
          rw [g2, e1]
          obtain ⟨t1, w1, ws1, rfl, d1, d2, d3⟩ := id wa3
          refine iteF ⟨_, rfl, _, rfl, D2, .ref t1, rfl, gD, t1, _, _, _, rfl, rfl, SqT.of d1, atI_nat (j := 0) rfl, _, rfl, _, rfl, B', .ref t0, rfl, .inr ⟨kb', ky p, q1, .inl hB', rfl, hq1, g2.symm⟩, t0, _, _, _, rfl, rfl, SqT.of c1, atI_nat (j := 0) rfl, _, _, rfl, rfl, _, rfl, ite2 (fun y => ?_) fun y => ?_⟩
          · rw [if_pos (show pl < L0 from of_decide_eq_true y)]
            refine store fun H4 D4 s4 h4 w4 => ⟨⟨D4, _, _, rfl, fun z => ?_, w4⟩, Same.trans s3 s4⟩
            have h5 := s3 _ _ hld
            rw [← z, h4] at h5
            cases h5
          · rw [if_neg (show ¬ pl < L0 from fun z => y (decide_eq_true z))]
            exact ⟨⟨B', _, _, rfl, nB', kb', hB', hwb'⟩, s3⟩
      · rintro σ H3 ⟨⟨B', v3, v4, rfl, nB', kb', hB', hwb'⟩, s3⟩
        have hd3 := s3 _ _ hld
        have tu : TSame H3 (upd H3 D2 (.dT kvs)) := tsame_put fun xs z => by
          rw [hd3] at z
          cases z
        rw [hwd.len, List.take_length, ← ebest] at hwb'
        refine ⟨hd3, ⟨B', D2, _, _, rfl, ⟨kb', ?_, hwb'.t tu (Nat.le_refl _)⟩, ⟨kvs, upd_same, (hwl.t (Same.t s3) (Nat.le_refl _)).t tu (Nat.le_refl _)⟩⟩, Same.trans s12 (back s3)⟩
        rw [upd_ne nB']
        exact hB'
    · rintro σ H1 ⟨⟨B, D, v3, v4, rfl, ⟨kb, hB, hwb⟩, hwD⟩, s1⟩
      exact ⟨_, rfl, q H1 B s1 ⟨kb, hB, hwb.t (Same.t (Same.refl _)) (by omega)⟩⟩
end
end Ab

namespace Ab
open PySem PySem.Spec PyProof.Rows L2

/-- the block of a comprehension that the i-th statement returns -/
def retScope (s : Stmt) (i : Nat) : Scope := match (defBody s)[i]? with
  | some (.Return (some (.ListComp _ _ sc _)) _) => sc
  | _ => ⟨.function, [], false, false, []⟩
theorem walk_rangeN {n : Nat} : Walk (Itr 0 n) n (fun _ => True) (fun i H x H' => H' = H ∧ x = .int ((i : Nat) : Int)) :=
  ⟨fun _ _ h _ => h, fun _ _ => Nat.le_refl _, fun i H x H' _ _ y => ⟨y.1, by have e := y.2; rw [Int.zero_add] at e; exact e⟩⟩
section
variable {X : Cx} {p pos : Pos} {a : Expr} {ta : TE}
theorem pe_tupK (K : PySem.W.Frag) (hg : Gl X "tuple") (hm : X.mg "tuple" = none) (ha : PE X a ta) (hs : starEach [a] X.env = (false, eval a X.env) :: starEach [] X.env := by rfl) (h : X.K = K := by rfl) : PE X (.Call (.Name "tuple" p) [a] [] pos) (tThen ta (kTup K)) := by
  subst h
  exact pe_tupleOf hg hm ha hs
end
section
variable {P : Program} {w : World} {K : PySem.W.Frag} {mg : Str → Option Value} {base : Heap}
def rowV (n : Nat) (es : List Ed) (i : Nat) : List V := (List.range n).map fun (j : Nat) => oV (bnd n es i j)
def spBounds : Sp := fun vs H Q _ => ∃ (a : Addr) (n : Nat) (rs : List Rl), vs = [.ref a] ∧ NetAt H a n rs ∧ NetOk n rs ∧ hasRound n (edges rs) = false ∧
  ∀ H' L as, Same H H' → H' L = some (.lst (as.map V.ref)) → Paired (fun p i => H' p = some (.lst (rowV n (edges rs) i))) as (List.range n) → Q (.ref L) H'
theorem scBounds : FnScope ["net", "walks", "size", "i", "j"] ["net"] (defScope (top 19)) := ⟨rfl, rfl, rfl, by decide +kernel, rfl, by decide +kernel, by decide +kernel⟩
theorem okBounds (T : Txt K mg) (cF : Cal P w K mg base 3 "first_round" spFirst) (cS : Cal P w K mg base 3 "shortest_walks" spShort) {f : Addr} {fd : FuncData} (F : Fun K "bounds_of" "bounds_of" (top 19) f fd) : FnOk P w K mg base CX0 4 f fd ["net"] spBounds := by
  refine F.ok scBounds (fun vs H Q E h => ?_) (fun cdv A outer s H vs Q E hr h => ?_)
  · obtain ⟨a, n, rs, rfl, _⟩ := h
    rfl
  · obtain ⟨a, n, rs, rfl, hnet, hok, hno, q⟩ := h
    have hu := hu_of hr
    have n3 := hok.n3
    refine ⟨_, (pss_cons (ps_if (pt_cmp (pc_notN (pe_k cF hr (by decide) (by rfl) (pa_cons (pv 0) pa_nil)))) (pss_one (ps_ret pe_non)) pss_nil)
       (pss_cons (ps_set (i := 1) scBounds.nd rfl (Or.inr rfl) (pe_k cS hr (by decide) (by rfl) (pa_cons (pv 0) pa_nil)))
       (pss_cons (ps_set (i := 2) scBounds.nd rfl (Or.inr rfl) (pe_ix (ixT K) (pv 0) pe_int (fun _ _ => rfl)))
       (pss_one (ps_ret (pe_lc (own := [("i", 3)]) (g := gName 3) (tt := tYes) rfl scBounds.nd (pi_range1 (by rfl) T.bRange (pa_cons (pv 2) pa_nil)) (blkOk_by (N := ["net", "walks", "size", "i", "j"]) (sc := (defScope (top 19))) (by decide +kernel)) (fun _ _ _ _ _ => pg_name (i := 3) scBounds.nd rfl (Or.inr rfl)) (fun _ _ _ _ _ => pts_nil) (fun _ _ _ _ _ => (pe_lc (own := [("j", 4)]) (g := gName 4) (tt := tYes) rfl scBounds.nd (pi_range1 (by rfl) T.bRange (pa_cons (pv 2) pa_nil)) (blkOk_by (N := ["net", "walks", "size", "i", "j"]) (sc := (relS (retScope (top 19) 3) (defScope (top 19)))) (by decide +kernel)) (fun _ _ _ _ _ => pg_name (i := 4) scBounds.nd rfl (Or.inl rfl)) (fun _ _ _ _ _ => pts_nil) (fun _ _ _ _ _ => (pe_ifExp (pt_cmp (pc_din hu (pe_tup (pa_cons (pv 3) (pa_cons (pv 4) pa_nil))) (pv 1))) (pe_ix (ixT K) (pe_dget hu (pv 1) (pe_tup (pa_cons (pv 3) (pa_cons (pv 4) pa_nil))) (fun _ _ => rfl)) pe_int (fun _ _ => rfl)) pe_non)))))))))), ?_⟩
    refine ⟨_, rfl, a, n, rs, rfl, hnet, hok, fun H1 v s1 _ hv => ?_⟩
    rw [hv hno]
    refine ⟨_, rfl, iteNS rfl ?_⟩
    refine ⟨_, rfl, a, n, rs, rfl, hnet.same s1, hok, fun H2 W s2 ⟨kvs, hW, hwd⟩ => ?_⟩
    have s12 := Same.trans s1 s2
    obtain ⟨t, ha, hrs⟩ := hnet.same s12
    refine ⟨_, rfl, a, _, _, _, rfl, rfl, SqT.of ha, atI_nat (j := 0) rfl, ?_⟩
    refine ⟨_, rfl, n, rfl, by omega, by omega, fun L hL => ?_⟩
    refine lc_it (walk_rangeN (n := n)) (fun i H' => Same H2 H' ∧ ∃ as, H' L = some (.lst (as.map V.ref)) ∧ Paired (fun p i => p ≠ L ∧ H' p = some (.lst (rowV n (edges rs) i))) as (List.range i)) ⟨same_new hL, [], upd_same, .nil⟩ (fun _ _ _ _ => True.intro) ?_ ?_
    · rintro i x H3 H3' hi ⟨s3, as, hl3, hp3⟩ ⟨rfl, rfl⟩
      have las : as.length = i := by
        have := Paired.length hp3
        rw [List.length_range] at this
        exact this
      refine ⟨rfl, yes_in ⟨_, rfl, n, rfl, by omega, by omega, fun R hR => ?_⟩⟩
      have nRL : R ≠ L := (ne_of_none hl3 hR).symm
      refine lc_it (walk_rangeN (n := n)) (fun j H' => Same H3' H' ∧ H' R = some (.lst ((List.range j).map fun (j : Nat) => oV (bnd n (edges rs) i j)))) ⟨same_new hR, upd_same⟩ (fun _ _ _ _ => True.intro) ?_ ?_
      · rintro j x H4 H4' hj ⟨s4, hl4⟩ ⟨rfl, rfl⟩
        have s24 := Same.trans s3 s4
        have hsz : ((List.range j).map fun (j : Nat) => oV (bnd n (edges rs) i j)).length < sizeLine := by
          rw [List.length_map, List.length_range]
          exact small1000 (by omega)
        have nxt : ((List.range j).map fun (j : Nat) => oV (bnd n (edges rs) i j)) ++ [oV (bnd n (edges rs) i j)] = (List.range (j + 1)).map fun (j : Nat) => oV (bnd n (edges rs) i j) := by
          rw [List.range_succ, List.map_append]
          rfl
        generalize ((List.range j).map fun (j : Nat) => oV (bnd n (edges rs) i j)) = row at hl4 hsz nxt
        refine ⟨rfl, yes_in ⟨_, rfl, _, rfl, by show 2 ≤ sizeLine; decide, fun p1 h1 => ?_⟩⟩
        have s5 := same_new (o := .tup [.int (i : Nat), .int (j : Nat)]) h1
        have hk5 : upd H4' p1 (.tup [.int (i : Nat), .int (j : Nat)]) p1 = some (.tup [.int (i : Nat), .int (j : Nat)]) := upd_same
        generalize upd H4' p1 (.tup [.int (i : Nat), .int (j : Nat)]) = H5 at s5 hk5
        have s25 := Same.trans s24 s5
        refine ⟨_, rfl, W, _, rfl, DGet.t (k := ky ((i : Int), (j : Int))) (s25 _ _ hW) hk5, _, rfl, ?_⟩
        rcases (hwd.t (Same.t s25) (Nat.le_refl _)).get ((i : Int), (j : Int)) with ⟨g1, g2⟩ | ⟨L0, v0, g1, g2, t0, w0, ws0, rfl, c1, c2, c3⟩
        · have eb : bnd n (edges rs) i j = none := g1
          rw [g2]
          refine iteF ⟨_, s5 _ _ hl4, hsz, same_mut (Same.trans s4 s5) hR, ?_⟩
          rw [upd_same, ← nxt, eb]
          rfl
        · have eb : bnd n (edges rs) i j = some L0 := g1
          rw [g2]
          refine iteT ⟨_, rfl, _, rfl, _, rfl, by show 2 ≤ sizeLine; decide, fun p2 h2 => ?_⟩
          have s6 := same_new (o := .tup [.int (i : Nat), .int (j : Nat)]) h2
          have hk6 : upd H5 p2 (.tup [.int (i : Nat), .int (j : Nat)]) p2 = some (.tup [.int (i : Nat), .int (j : Nat)]) := upd_same
          generalize upd H5 p2 (.tup [.int (i : Nat), .int (j : Nat)]) = H6 at s6 hk6
          refine ⟨W, .ref t0, rfl, .inr ⟨kvs, ky ((i : Int), (j : Int)), p2, .inl (Same.trans s25 s6 _ _ hW), rfl, hk6, g2.symm⟩, t0, _, _, _, rfl, rfl, SqT.of (s6 _ _ c1), atI_nat (j := 0) rfl, _, Same.trans s5 s6 _ _ hl4, hsz, same_mut (Same.trans s4 (Same.trans s5 s6)) hR, ?_⟩
          rw [upd_same, ← nxt, eb]
          rfl
      · rintro H4 ⟨s4, hl4⟩
        refine ⟨_, s4 _ _ hl3, by rw [List.length_map, las]; exact small1000 (by omega), same_mut (Same.trans s3 s4) hL, as ++ [R], by rw [upd_same, List.map_append]; rfl, ?_⟩
        rw [List.range_succ]
        refine paired_snoc (paired_imp (fun p i hp => ⟨hp.1, ?_⟩) hp3) ⟨nRL, ?_⟩
        · rw [upd_ne nRL]
          exact hl4
        · rw [upd_ne hp.1]
          exact s4 _ _ hp.2
    · rintro H3 ⟨s3, as, hl3, hp3⟩
      exact q H3 L as (Same.trans s12 s3) hl3 (paired_imp (fun p i hp => hp.2) hp3)

def spCan : Sp := fun vs H Q _ => ∃ (a : Addr) (n : Nat) (rs : List Rl), vs = [.ref a] ∧ NetAt H a n rs ∧ NetOk n rs ∧ ∀ H', Same H H' → Q (.bl (!hasRound n (edges rs))) H'
theorem scCan : FnScope ["net"] ["net"] (defScope (top 20)) := ⟨rfl, rfl, rfl, by decide +kernel, rfl, by decide +kernel, by decide +kernel⟩
theorem okCan (T : Txt K mg) (cN : Cal P w K mg base 5 "check_net" spCheck) (cF : Cal P w K mg base 3 "first_round" spFirst) {f : Addr} {fd : FuncData} (F : Fun K "can_keep" "can_keep" (top 20) f fd) : FnOk P w K mg base CX0 6 f fd ["net"] spCan := by
  refine F.ok scCan (fun vs H Q E h => ?_) (fun cdv A outer s H vs Q E hr h => ?_)
  · obtain ⟨a, n, rs, rfl, _⟩ := h
    rfl
  · obtain ⟨a, n, rs, rfl, hnet, hok, q⟩ := h
    refine ⟨_, (pss_cons (ps_expr (pe_k cN hr (by decide) (by rfl) (pa_cons (pv 0) pa_nil)))
       (pss_one (ps_ret (pe_cmp (pc_isN (pe_k cF hr (by decide) (by rfl) (pa_cons (pv 0) pa_nil))))))), ?_⟩
    refine ⟨_, rfl, a, n, rs, rfl, hnet, hok, fun H1 s1 => ?_⟩
    refine ⟨_, rfl, a, n, rs, rfl, hnet.same s1, hok, fun H2 v s2 hy hn => ?_⟩
    have e : decide (v = V.non) = !hasRound n (edges rs) := by
      cases hh : hasRound n (edges rs) with
      | true =>
        obtain ⟨b, hb⟩ := hy hh
        rw [hb]
        exact decide_eq_false (fun z => nomatch z)
      | false =>
        rw [hn hh]
        rfl
    show Q (.bl (decide (v = V.non))) H2
    rw [e]
    exact q H2 (Same.trans s1 s2)
def spKept : Sp := fun vs H Q _ => ∃ (a : Addr) (n : Nat) (rs : List Rl), vs = [.ref a] ∧ NetAt H a n rs ∧ NetOk n rs ∧ hasRound n (edges rs) = false ∧ ∀ H', Same H H' → Q .non H'
theorem scKept : FnScope ["net"] ["net"] (defScope (top 21)) := ⟨rfl, rfl, rfl, by decide +kernel, rfl, by decide +kernel, by decide +kernel⟩
theorem okKept (T : Txt K mg) (cN : Cal P w K mg base 5 "check_net" spCheck) (cF : Cal P w K mg base 3 "first_round" spFirst) {f : Addr} {fd : FuncData} (F : Fun K "check_kept" "check_kept" (top 21) f fd) : FnOk P w K mg base CX0 6 f fd ["net"] spKept := by
  refine F.ok scKept (fun vs H Q E h => ?_) (fun cdv A outer s H vs Q E hr h => ?_)
  · obtain ⟨a, n, rs, rfl, _⟩ := h
    rfl
  · obtain ⟨a, n, rs, rfl, hnet, hok, hno, q⟩ := h
    refine ⟨_, (pss_cons (ps_expr (pe_k cN hr (by decide) (by rfl) (pa_cons (pv 0) pa_nil)))
       (pss_one (ps_if (pt_cmp (pc_notN (pe_k cF hr (by decide) (by rfl) (pa_cons (pv 0) pa_nil)))) (pss_one ps_never) pss_nil))), ?_⟩
    refine ⟨_, rfl, a, n, rs, rfl, hnet, hok, fun H1 s1 => ?_⟩
    refine ⟨_, rfl, a, n, rs, rfl, hnet.same s1, hok, fun H2 v s2 _ hn => ?_⟩
    rw [hn hno]
    exact ⟨_, rfl, iteNS rfl (q H2 (Same.trans s1 s2))⟩
def spTight : Sp := fun vs H Q _ => ∃ (a : Addr) (n : Nat) (rs : List Rl), vs = [.ref a] ∧ NetAt H a n rs ∧ NetOk n rs ∧ hasRound n (edges rs) = false ∧
  ∀ H' t as, Same H H' → H' t = some (.tup (as.map V.ref)) → Paired (fun p i => H' p = some (.tup (rowV n (edges rs) i))) as (List.range n) → Q (.ref t) H'
theorem scTight : FnScope ["net", "row"] ["net"] (defScope (top 22)) := ⟨rfl, rfl, rfl, by decide +kernel, rfl, by decide +kernel, by decide +kernel⟩
theorem okTight (T : Txt K mg) (cK : Cal P w K mg base 6 "check_kept" spKept) (cB : Cal P w K mg base 4 "bounds_of" spBounds) {f : Addr} {fd : FuncData} (F : Fun K "tight" "tight" (top 22) f fd) : FnOk P w K mg base CX0 7 f fd ["net"] spTight := by
  refine F.ok scTight (fun vs H Q E h => ?_) (fun cdv A outer s H vs Q E hr h => ?_)
  · obtain ⟨a, n, rs, rfl, _⟩ := h
    rfl
  · obtain ⟨a, n, rs, rfl, hnet, hok, hno, q⟩ := h
    have n3 := hok.n3
    refine ⟨_, (pss_cons (ps_expr (pe_k cK hr (by decide) (by rfl) (pa_cons (pv 0) pa_nil)))
       (pss_one (ps_ret (pe_tupK K (by rfl) T.bTup (pe_lc (own := [("row", 1)]) (g := gName 1) (tt := tYes) rfl scTight.nd (pi_list (pe_k cB hr (by decide) (by rfl) (pa_cons (pv 0) pa_nil))) (blkOk_by (N := ["net", "row"]) (sc := (defScope (top 22))) (by decide +kernel)) (fun _ _ _ _ _ => pg_name (i := 1) scTight.nd rfl (Or.inl rfl)) (fun _ _ _ _ _ => pts_nil) (fun _ _ _ _ _ => (pe_tupK K (by rfl) T.bTup (pv 1)))))))), ?_⟩
    refine ⟨_, rfl, a, n, rs, rfl, hnet, hok, hno, fun H1 s1 => ?_⟩
    refine ⟨_, rfl, a, n, rs, rfl, hnet.same s1, hok, hno, fun H2 L as s2 hL hp => ⟨L, rfl, ⟨_, SqL.of hL⟩, fun D hD => ?_⟩⟩
    have las : as.length = n := by
      have := Paired.length hp
      rw [List.length_range] at this
      exact this
    refine lc_it (walk_list (xs := as.map V.ref)) (fun i H' => Same H2 H' ∧ ∃ bs, H' D = some (.lst (bs.map V.ref)) ∧ Paired (fun p i => H' p = some (.tup (rowV n (edges rs) i))) bs (List.range i)) ⟨same_new hD, [], upd_same, .nil⟩ (fun i H' _ p => SqL.of (p.1 _ _ hL)) ?_ ?_
    · rintro i x H3 H3' hi ⟨s3, bs, hl3, hp3⟩ ⟨rfl, hx⟩
      rw [List.getElem?_map] at hx
      obtain ⟨pa, hpa, rfl⟩ := Option.map_eq_some_iff.mp hx
      obtain ⟨i', hi', hpr⟩ := paired_get hp hpa
      have hin : i < n := by
        rw [List.length_map, las] at hi
        exact hi
      rw [List.getElem?_range hin] at hi'
      cases hi'
      refine ⟨rfl, yes_in ⟨_, rfl, .inl ⟨pa, _, rfl, SqL.of (s3 _ _ hpr), fun p hp => ?_⟩⟩⟩
      have lbs : bs.length = i := by
        have := Paired.length hp3
        rw [List.length_range] at this
        exact this
      have s4 := same_new (o := .tup (rowV n (edges rs) i)) hp
      have hl4 := s4 _ _ hl3
      refine ⟨_, hl4, by rw [List.length_map, lbs]; exact small1000 (by omega), same_mut (Same.trans s3 s4) hD, bs ++ [p], by rw [upd_same, List.map_append]; rfl, ?_⟩
      have tD : TSame (upd H3' p (.tup (rowV n (edges rs) i))) (upd (upd H3' p (.tup (rowV n (edges rs) i))) D (.lst (bs.map V.ref ++ [.ref p]))) := tsame_put fun xs z => by
        rw [hl4] at z
        cases z
      rw [List.range_succ]
      exact paired_snoc (paired_imp (fun p i hp => tD _ _ (s4 _ _ hp)) hp3) (tD _ _ upd_same)
    · rintro H3 ⟨s3, bs, hl3, hp3⟩
      rw [List.length_map, las] at hp3
      refine .inl ⟨D, _, rfl, SqL.of hl3, fun t ht => ?_⟩
      have s4 := same_new (o := .tup (bs.map V.ref)) ht
      exact q _ t bs (Same.trans s1 (Same.trans s2 (Same.trans s3 s4))) upd_same (paired_imp (fun p i hp => s4 _ _ hp) hp3)
end
end Ab

namespace Ab
open PySem PySem.Spec PyProof.Rows L2

/-- the stream lies at S: the script's numbers, a number that is drawn from, a place -/
def StAt (H : Hp) (S L : Addr) : Prop := ∃ (ns : List Int) (c k : Int), H S = some (.lst [.ref L, .int c, .int k]) ∧ H L = some (.lst (ns.map V.int)) ∧ L ≠ S ∧ 0 ≤ c ∧ 0 ≤ k
section
variable {X : Cx}
theorem opCatA (K : PySem.W.Frag) (h : X.K = K := by rfl) : OpR X (binaryOp .Add) (rCatA K) := by
  subst h
  exact op_catA
end
section
variable {P : Program} {w : World} {K : PySem.W.Frag} {mg : Str → Option Value} {base : Heap}
def spStream (K : PySem.W.Frag) : Sp := fun vs H Q _ => ∃ (a : Addr) (ns : List Int), vs = [.ref a] ∧ SqL K H a (ns.map V.int) ∧ ∀ H' S L, Same H H' → H S = none → H L = none → StAt H' S L → Q (.ref S) H'
theorem scStream : FnScope ["_law_script"] ["_law_script"] (defScope (top 24)) := ⟨rfl, rfl, rfl, by decide +kernel, rfl, by decide +kernel, by decide +kernel⟩
theorem okStream (T : Txt K mg) {f : Addr} {fd : FuncData} (F : Fun K "_law_stream" "_law_stream" (top 24) f fd) : FnOk P w K mg base CX0 1 f fd ["_law_script"] (spStream K) := by
  refine F.ok scStream (fun vs H Q E h => ?_) (fun cdv A outer s H vs Q E hr h => ?_)
  · obtain ⟨a, ns, rfl, _⟩ := h
    rfl
  · obtain ⟨a, ns, rfl, ha, q⟩ := h
    refine ⟨_, (pss_one (ps_ret (pe_lst (pa_cons (pe_callTy call_list_of (by rfl) T.bList (by decide +kernel) (pa_cons (pv 0) pa_nil)) (pa_cons pe_int (pa_cons pe_int pa_nil)))))), ?_⟩
    refine ⟨_, rfl, a, _, rfl, .inl ha, fun L hL => ⟨by show 3 ≤ sizeLine; decide, fun S hS => ?_⟩⟩
    have s1 := same_new (o := .lst (ns.map V.int)) hL
    have s2 := Same.trans s1 (same_new (o := .lst [.ref L, .int 0, .int 0]) hS)
    exact q _ S L s2 (s1.free hS) hL ⟨ns, 0, 0, upd_same, same_new hS _ _ upd_same, ne_of_none upd_same hS, Int.le_refl _, Int.le_refl _⟩

def spNext : Sp := fun vs H Q _ => ∃ (S L : Addr) (many : Int), vs = [.ref S, .int many] ∧ StAt H S L ∧ 0 < many ∧ many ≤ 1000 ∧ ∀ H' d, SameX S H H' → StAt H' S L → 0 ≤ d → d < many → Q (.int d) H'
theorem scNext : FnScope ["_law_stream_here", "_law_many", "_law_k", "_law_cell", "_law_digit"] ["_law_stream_here", "_law_many"] (defScope (top 25)) := ⟨rfl, rfl, rfl, by decide +kernel, rfl, by decide +kernel, by decide +kernel⟩
theorem okNext (T : Txt K mg) {f : Addr} {fd : FuncData} (F : Fun K "_law_next" "_law_next" (top 25) f fd) : FnOk P w K mg base CX0 1 f fd ["_law_stream_here", "_law_many"] spNext := by
  refine F.ok scNext (fun vs H Q E h => ?_) (fun cdv A outer s H vs Q E hr h => ?_)
  · obtain ⟨S, L, many, rfl, _⟩ := h
    rfl
  · obtain ⟨S, L, many, rfl, ⟨ns, c, k, hS, hL, nLS, c0, k0⟩, m0, m1, q⟩ := h
    refine ⟨_, (C8.pss_cut (ps_if (pt_cmpR op_eq (pe_ix (ixL K) (pv 0) pe_int (fun _ _ => rfl)) pe_int (nomark _)) (pss_cons (ps_set (i := 2) scNext.nd rfl (Or.inl rfl) (pe_ix (ixL K) (pv 0) pe_int (fun _ _ => rfl))) (pss_cons (ps_set (i := 3) scNext.nd rfl (Or.inl rfl) (pe_op op_add pe_int (pv 2))) (C8.pss_cut (ps_if (pt_cmpR op_lt (pv 2) (pe_callB call_len_seq (by rfl) T.bLen PySem.boot_len (pa_cons (pe_ix (ixL K) (pv 0) pe_int (fun _ _ => rfl)) pa_nil)) (nomark _)) (pss_one (ps_set (i := 3) scNext.nd rfl (Or.inl rfl) (pe_callB call_abs (by rfl) T.bAbs (by decide +kernel) (pa_cons (pe_ix (ixL K) (pe_ix (ixL K) (pv 0) pe_int (fun _ _ => rfl)) (pv 2) (fun _ _ => rfl)) pa_nil)))) pss_nil) (C8.pss_cut (ps_if (pt_cmpR op_lt (pv 3) (pe_op op_pow pe_int pe_int) (nomark _)) (pss_cons (ps_set (i := 3) scNext.nd rfl (Or.inl rfl) (pe_op op_modN (pe_callTy call_int1 (by rfl) T.bInt (by decide +kernel) (pa_cons (pe_op op_add (pe_op op_add (pe_op op_mul (pv 3) pe_int) (pe_op op_mul (pv 2) pe_int)) pe_int) pa_nil)) pe_int)) (pss_one (ps_set (i := 3) scNext.nd rfl (Or.inl rfl) (pe_op op_add (pe_op op_mul (pe_op op_modN (pe_callTy call_int1 (by rfl) T.bInt (by decide +kernel) (pa_cons (pe_op op_add (pe_op op_mul (pv 3) pe_int) pe_int) pa_nil)) pe_int) pe_int) (pv 3))))) pss_nil) (pss_cons (ps_asg (pv 3) (pg_sub (pv 0) pe_int set_list)) (pss_one (ps_asg (pe_op op_add (pv 2) pe_int) (pg_sub (pv 0) pe_int set_list)))))))) pss_nil)
       (pss_cons (ps_set (i := 4) scNext.nd rfl (Or.inl rfl) (pe_op op_modN (pe_callTy call_int1 (by rfl) T.bInt (by decide +kernel) (pa_cons (pe_ix (ixL K) (pv 0) pe_int (fun _ _ => rfl)) pa_nil)) (pv 1)))
       (pss_cons (ps_asg (pe_op op_fdiv (pe_ix (ixL K) (pv 0) pe_int (fun _ _ => rfl)) (pv 1)) (pg_sub (pv 0) pe_int set_list))
       (pss_one (ps_ret (pv 4)))))), ?_⟩
    refine ⟨fun σ H' => ∃ v2 v3 v4 c' k', σ = [some (.ref S), some (.int many), v2, v3, v4] ∧ SameX S H H' ∧ H' S = some (.lst [.ref L, .int c', .int k']) ∧ 0 ≤ c' ∧ 0 ≤ k', ?_, ?_⟩
    · refine ⟨_, rfl, S, _, _, _, rfl, rfl, SqL.of hS, atI_nat (j := 1) rfl, rfl, _, rfl, ite2 (fun _ => ?_) fun _ => ?_⟩
      · refine ⟨_, rfl, S, _, _, _, rfl, rfl, SqL.of hS, atI_nat (j := 2) rfl, ?_⟩
        refine ⟨_, rfl, _, _, rfl, rfl, ?_⟩
        -- if _law_k < len(..): _law_cell = abs(..)
        refine ⟨fun σ H' => H' = H ∧ ∃ v4 cell, σ = [some (.ref S), some (.int many), some (.int k), some (.int cell), v4] ∧ 0 ≤ cell, ?_, ?_⟩
        · refine ⟨_, rfl, _, rfl, S, _, _, _, rfl, rfl, SqL.of hS, atI_nat (j := 0) rfl, L, _, rfl, .inl (SqL.of hL), _, _, rfl, rfl, _, rfl, ite2 (fun z => ?_) fun _ => ?_⟩
          · have z' : k < ((ns.map V.int).length : Int) := of_decide_eq_true z
            rw [List.length_map] at z'
            obtain ⟨x, hx⟩ : ∃ x, ns[k.toNat]? = some x := ⟨ns[k.toNat], List.getElem?_eq_getElem (by omega)⟩
            have hx2 : (ns.map V.int)[k.toNat]? = some (.int x) := by
              rw [List.getElem?_map, hx]
              rfl
            refine ⟨_, rfl, S, _, _, _, rfl, rfl, SqL.of hS, atI_nat (j := 0) rfl, _, rfl, L, _, _, _, rfl, rfl, SqL.of hL, at_of (j := k.toNat) (by omega) hx2, _, rfl, rfl, _, _, rfl, ?_⟩
            split <;> omega
          · exact ⟨rfl, _, _, rfl, by omega⟩
        · rintro σ H1 ⟨rfl, v4, cell, rfl, hc0⟩
          -- if _law_cell < 10 ** 18: ..
          refine ⟨fun σ H' => H' = H1 ∧ ∃ v4 cell, σ = [some (.ref S), some (.int many), some (.int k), some (.int cell), v4] ∧ 0 ≤ cell, ?_, ?_⟩
          · refine ⟨_, rfl, _, _, rfl, rfl, ⟨by decide, by decide, by decide⟩, _, _, rfl, rfl, _, rfl, ite2 (fun _ => ?_) fun _ => ?_⟩
            · refine ⟨_, rfl, _, _, rfl, rfl, .inr ⟨by decide, by decide⟩, _, rfl, _, _, rfl, rfl, .inr ⟨by decide, by decide⟩, _, _, rfl, rfl, _, _, rfl, rfl, .inl ⟨_, rfl, _, _, rfl, rfl, (by show (2147483647 : Int) ≠ 0; decide), ?_⟩⟩
              have g1 := Int.fmod_nonneg_of_pos (cell * 48271 + k * 69621 + 11) (show (0 : Int) < 2147483647 by decide)
              refine ⟨_, rfl, _, _, rfl, rfl, .inr ⟨by decide, by decide⟩, _, _, rfl, rfl, .inl ⟨_, rfl, _, _, rfl, rfl, (by show (2147483647 : Int) ≠ 0; decide), _, _, rfl, rfl, .inr ⟨by decide, by decide⟩, _, rfl, _, _, rfl, rfl, ?_⟩⟩
              have g2 := Int.fmod_nonneg_of_pos ((cell * 48271 + k * 69621 + 11).fmod 2147483647 * 16807 + 13) (show (0 : Int) < 2147483647 by decide)
              exact ⟨rfl, _, _, rfl, Int.add_nonneg (Int.mul_nonneg g2 (by decide)) g1⟩
            · exact ⟨rfl, _, _, rfl, hc0⟩
          · rintro σ H2 ⟨rfl, v4, cell, rfl, hc0⟩
            refine ⟨_, rfl, _, rfl, S, _, _, 1, rfl, rfl, hS, rfl, ?_⟩
            refine ⟨_, rfl, _, _, rfl, rfl, _, rfl, S, _, _, 2, rfl, rfl, upd_same, rfl, ?_⟩
            refine ⟨_, _, _, _, _, rfl, SameX.put (SameX.put SameX.refl), upd_same, hc0, by omega⟩
      · exact ⟨_, _, _, _, _, rfl, SameX.refl, hS, c0, k0⟩
    · rintro σ H1 ⟨v2, v3, v4, c', k', rfl, s1, hS1, hc1, hk1⟩
      refine ⟨_, rfl, S, _, _, _, rfl, rfl, SqL.of hS1, atI_nat (j := 1) rfl, .inl ⟨_, rfl, _, rfl, _, _, rfl, rfl, by omega, ?_⟩⟩
      refine ⟨_, rfl, S, _, _, _, rfl, rfl, SqL.of hS1, atI_nat (j := 1) rfl, _, rfl, _, _, rfl, rfl, ⟨m0, by omega⟩, _, rfl, S, _, _, 1, rfl, rfl, hS1, rfl, ?_⟩
      refine ⟨_, rfl, q _ _ s1.put ⟨ns, c' / many, k', upd_same, ?_, nLS, Int.ediv_nonneg hc1 (by omega), hk1⟩ (Int.fmod_nonneg_of_pos c' m0) (Int.fmod_lt_of_pos c' m0)⟩
      rw [upd_ne nLS]
      exact s1 _ _ nLS hL

/-- a row of heights, a tuple of whole numbers -/
theorem rowAt {row : List Int} {i : Int} (h0 : 0 ≤ i) (h1 : i < row.length) : atI (row.map V.int) i = some (.int (at_ row i)) := by
  refine at_of (j := i.toNat) (by omega) ?_
  have hl : i.toNat < row.length := by omega
  unfold at_
  rw [List.getElem?_map, List.getElem?_eq_getElem hl, List.getD_eq_getElem?_getD, List.getElem?_eq_getElem hl]
  rfl
def spHold : Sp := fun vs H Q _ => ∃ (a h : Addr) (n : Nat) (rs : List Rl) (row : List Int), vs = [.ref a, .ref h] ∧ NetAt H a n rs ∧ NetOk n rs ∧ H h = some (.tup (row.map V.int)) ∧ row.length = n ∧ Q (.bl (holdB rs row)) H
theorem scHold : FnScope ["_law_net_here", "_law_heights", "_law_start", "_law_end", "_law_low", "_law_high", "_law_apart"] ["_law_net_here", "_law_heights"] (defScope (top 33)) := ⟨rfl, rfl, rfl, by decide +kernel, rfl, by decide +kernel, by decide +kernel⟩
theorem okHold (T : Txt K mg) {f : Addr} {fd : FuncData} (F : Fun K "_law_hold" "_law_hold" (top 33) f fd) : FnOk P w K mg base CX0 1 f fd ["_law_net_here", "_law_heights"] spHold := by
  refine F.ok scHold (fun vs H Q E h => ?_) (fun cdv A outer s H vs Q E hr h => ?_)
  · obtain ⟨a, h, n, rs, row, rfl, _⟩ := h
    rfl
  · obtain ⟨a, hh, n, rs, row, rfl, ⟨t, ha, as, ht, hp⟩, hok, hrow, hlen, q⟩ := h
    have la : as.length = rs.length := Paired.length hp
    refine ⟨_, (pss_cons (ps_for PassesOwn.never rfl (pi_tup (pe_ix (ixT K) (pv 0) pe_int (fun _ _ => rfl))) (pg_tup (by rfl) (pgs_cons (pg_name (i := 2) scHold.nd rfl (Or.inl rfl)) (pgs_cons (pg_name (i := 3) scHold.nd rfl (Or.inl rfl)) (pgs_cons (pg_name (i := 4) scHold.nd rfl (Or.inl rfl)) (pgs_cons (pg_name (i := 5) scHold.nd rfl (Or.inl rfl)) pgs_nil))))) (pss_cons (ps_set (i := 6) scHold.nd rfl (Or.inl rfl) (pe_op op_sub (pe_ix (ixT K) (pv 1) (pv 3) (fun _ _ => rfl)) (pe_ix (ixT K) (pv 1) (pv 2) (fun _ _ => rfl)))) (pss_one (ps_if (PW.pt (pw_or (PW.pt (pw_and (pt_cmp (pc_notN (pv 4))) (pw_and1 (pt_cmpR op_lt (pv 6) (pv 4) (nomark _))))) (pw_or1 (PW.pt (pw_and (pt_cmp (pc_notN (pv 5))) (pw_and1 (pt_cmpR op_gt (pv 6) (pv 5) (nomark _)))))))) (pss_one (ps_ret pe_bl)) pss_nil))))
       (pss_one (ps_ret pe_bl))), ?_⟩
    refine ⟨_, rfl, a, _, _, _, rfl, rfl, SqT.of ha, atI_nat (j := 1) rfl, t, rfl, ⟨_, SqT.of ht⟩, ?_⟩
    refine for_it (walk_tup (xs := as.map V.ref)) (fun i σ H' => (∃ v2 v3 v4 v5 v6, σ = [some (.ref a), some (.ref hh), v2, v3, v4, v5, v6]) ∧ H' = H ∧ (rs.take i).all (okR row) = true)
      ⟨⟨_, _, _, _, _, rfl⟩, rfl, rfl⟩ (fun i σ H' _ p => by rw [p.2.1]; exact SqT.of ht) ?_ ?_
    · rintro i x σ H1 H1' hi ⟨⟨v2, v3, v4, v5, v6, rfl⟩, rfl, hall⟩ ⟨rfl, hx⟩
      rw [List.getElem?_map] at hx
      obtain ⟨pa, hpa, rfl⟩ := Option.map_eq_some_iff.mp hx
      obtain ⟨r, hr1, hr2⟩ := paired_get hp hpa
      have hro := hok.all r (List.mem_of_getElem? hr1)
      have e0 := hro.e0
      have e1 := hro.e1
      have s0 := hro.s0
      have s1 := hro.s1
      refine ⟨pa, _, rfl, SqT.of hr2, rfl, _, _, rfl, _, _, rfl, _, _, rfl, _, _, rfl, rfl, ?_⟩
      refine ⟨_, rfl, _, rfl, hh, _, _, _, rfl, rfl, SqT.of hrow, rowAt e0 (by omega), _, rfl, _, rfl, hh, _, _, _, rfl, rfl, SqT.of hrow, rowAt s0 (by omega), _, _, rfl, rfl, ?_⟩
      have nxt : okR row r = true → (rs.take (i + 1)).all (okR row) = true := fun z => by
        rw [List.take_add_one, hr1, List.all_append, hall]
        show (true && (okR row r && true)) = true
        rw [z]
        rfl
      have no : okR row r = false → holdB rs row = false := fun z => by
        unfold holdB
        exact List.all_eq_false.mpr ⟨r, List.mem_of_getElem? hr1, by rw [z]; exact Bool.false_ne_true⟩
      have hdef : okR row r = (okLo r (at_ row r.e - at_ row r.s) && okHi r (at_ row r.e - at_ row r.s)) := rfl
      refine ⟨_, rfl, _, rfl, ?_⟩
      rw [oV_none]
      cases hl : r.lo with
      | none =>
        refine iteF ?_
        refine ⟨_, rfl, _, rfl, ?_⟩
        rw [oV_none]
        cases hh : r.hi with
        | none => exact iteF (iteF ⟨⟨_, _, _, _, _, rfl⟩, rfl, nxt (by rw [hdef]; unfold okLo okHi; rw [hl, hh]; rfl)⟩)
        | some l2 =>
          refine iteT ⟨_, rfl, _, rfl, _, _, rfl, rfl, _, rfl, ite2 (fun y2 => ?_) fun y2 => ?_⟩
          · have y3 : l2 < at_ row r.e - at_ row r.s := of_decide_eq_true y2
            rw [no (by rw [hdef]; unfold okHi; rw [hh, Bool.and_eq_false_iff]; right; show decide (at_ row r.e - at_ row r.s ≤ l2) = false; exact decide_eq_false (by omega))] at q
            exact q
          · have y3 : ¬ l2 < at_ row r.e - at_ row r.s := fun z => y2 (decide_eq_true z)
            refine ⟨⟨_, _, _, _, _, rfl⟩, rfl, nxt ?_⟩
            rw [hdef]
            unfold okLo okHi
            rw [hl, hh]
            show (true && decide (at_ row r.e - at_ row r.s ≤ l2)) = true; rw [Bool.true_and]; exact decide_eq_true (by omega)
      | some l =>
        refine iteT ⟨_, rfl, _, rfl, _, _, rfl, rfl, _, rfl, ite2 (fun y => iteT ?_) fun y => ?_⟩
        · have y1 : at_ row r.e - at_ row r.s < l := of_decide_eq_true y
          rw [no (by rw [hdef]; unfold okLo; rw [hl, Bool.and_eq_false_iff]; left; show decide (l ≤ at_ row r.e - at_ row r.s) = false; exact decide_eq_false (by omega))] at q
          exact q
        · have y1 : ¬ at_ row r.e - at_ row r.s < l := fun z => y (decide_eq_true z)
          refine ⟨_, rfl, _, rfl, ?_⟩
          rw [oV_none]
          cases hh : r.hi with
          | none => exact iteF (iteF ⟨⟨_, _, _, _, _, rfl⟩, rfl, nxt (by rw [hdef]; unfold okLo okHi; rw [hl, hh]; show (decide (l ≤ at_ row r.e - at_ row r.s) && true) = true; rw [Bool.and_true]; exact decide_eq_true (by omega))⟩)
          | some l2 =>
            refine iteT ⟨_, rfl, _, rfl, _, _, rfl, rfl, _, rfl, ite2 (fun y2 => ?_) fun y2 => ?_⟩
            · have y3 : l2 < at_ row r.e - at_ row r.s := of_decide_eq_true y2
              rw [no (by rw [hdef]; unfold okHi; rw [hh, Bool.and_eq_false_iff]; right; show decide (at_ row r.e - at_ row r.s ≤ l2) = false; exact decide_eq_false (by omega))] at q
              exact q
            · have y3 : ¬ l2 < at_ row r.e - at_ row r.s := fun z => y2 (decide_eq_true z)
              refine ⟨⟨_, _, _, _, _, rfl⟩, rfl, nxt ?_⟩
              rw [hdef]
              unfold okLo okHi
              rw [hl, hh]
              show (decide (l ≤ at_ row r.e - at_ row r.s) && decide (at_ row r.e - at_ row r.s ≤ l2)) = true; rw [Bool.and_eq_true]; exact ⟨decide_eq_true (by omega), decide_eq_true (by omega)⟩
    · rintro σ H1 ⟨⟨v2, v3, v4, v5, v6, rfl⟩, rfl, hall⟩
      rw [List.length_map, la, List.take_length] at hall
      have e : holdB rs row = true := hall
      rw [e] at q
      exact q

/-- a list of rows lies at L -/
abbrev RowsP (H : Hp) : List Addr → List (List Int) → Prop := Paired fun p row => H p = some (.tup (row.map V.int))
def RowsAt (H : Hp) (L : Addr) (rows : List (List Int)) : Prop := ∃ as : List Addr, H L = some (.lst (as.map V.ref)) ∧ RowsP H as rows
theorem RowsP.t {H H' : Hp} {as : List Addr} {rows : List (List Int)} (h : RowsP H as rows) (s : TSame H H') : RowsP H' as rows := paired_imp (fun p e q => s _ _ q) h
theorem paired_app {α β : Type} {F : α → β → Prop} : ∀ {l l' : List α} {m m' : List β}, Paired F l m → Paired F l' m' → Paired F (l ++ l') (m ++ m')
  | _, _, _, _, .nil, q => q
  | _, _, _, _, .cons p t, q => .cons p (paired_app t q)
theorem len_all (z : Int) : ∀ k, (allRows z k).length ≤ 19 ^ k
  | 0 => Nat.le_refl _
  | k + 1 => by
    have ih := len_all z k
    have h : ∀ l : List (List Int), (l.flatMap (moreRow z k)).length ≤ l.length * 19 := fun l => by
      induction l with
      | nil => exact Nat.le_refl _
      | cons a l ih =>
        have := len_more z k a
        rw [List.flatMap_cons, List.length_append, List.length_cons]
        omega
    have h2 := h (allRows z k)
    unfold allRows
    rw [Nat.pow_succ]
    omega
def spAll : Sp := fun vs H Q _ => ∃ (n : Nat) (z : Int), vs = [.int n, .int z] ∧ n ≤ 3 ∧ ∀ H' L, Same H H' → RowsAt H' L (allRows z n) → Q (.ref L) H'
theorem scAll : FnScope ["_law_size", "_law_zero", "_law_rows", "_law_k", "_law_longer", "_law_row", "_law_one"] ["_law_size", "_law_zero"] (defScope (top 37)) := ⟨rfl, rfl, rfl, by decide +kernel, rfl, by decide +kernel, by decide +kernel⟩
theorem okAll (T : Txt K mg) {f : Addr} {fd : FuncData} (F : Fun K "_law_all" "_law_all" (top 37) f fd) : FnOk P w K mg base CX0 1 f fd ["_law_size", "_law_zero"] spAll := by
  refine F.ok scAll (fun vs H Q E h => ?_) (fun cdv A outer s H vs Q E hr h => ?_)
  · obtain ⟨n, z, rfl, _⟩ := h
    rfl
  · obtain ⟨n, z, rfl, hn, q⟩ := h
    refine ⟨_, (pss_cons (ps_set (i := 2) scAll.nd rfl (Or.inl rfl) (pe_lst (pa_cons (pe_tup pa_nil) pa_nil)))
       (pss_cons (ps_for PassesOwn.never rfl (pi_range1 (by rfl) T.bRange (pa_cons (pv 0) pa_nil)) (pg_name (i := 3) scAll.nd rfl (Or.inl rfl)) (pss_cons (ps_set (i := 4) scAll.nd rfl (Or.inl rfl) (pe_lst pa_nil)) (pss_cons (ps_for PassesOwn.never rfl (pi_list (pv 2)) (pg_name (i := 5) scAll.nd rfl (Or.inr rfl)) (pss_one (ps_if (pt_cmpR op_eq (pv 3) (pv 1) (nomark _)) (pss_one (ps_expr (pe_bm PySem.F.plainAttrs_list PySem.F.slot_list_append PySem.F.type_list_append mt_append (pv 4) (pa_cons (pe_op op_catA (pv 5) (pe_tup (pa_cons pe_int pa_nil))) pa_nil)))) (pss_one (ps_set (i := 4) scAll.nd rfl (Or.inl rfl) (pe_op op_cat (pv 4) (pe_lc (own := [("_law_one", 6)]) (g := gName 6) (tt := tYes) rfl scAll.nd (pi_range2 (by rfl) T.bRange (pa_cons (pe_un un_neg pe_int) (pa_cons pe_int pa_nil))) (blkOk_by (N := ["_law_size", "_law_zero", "_law_rows", "_law_k", "_law_longer", "_law_row", "_law_one"]) (sc := (defScope (top 37))) (by decide +kernel)) (fun _ _ _ _ _ => pg_name (i := 6) scAll.nd rfl (Or.inl rfl)) (fun _ _ _ _ _ => pts_nil) (fun _ _ _ _ _ => (pe_op (opCatA K) (pv 5) (pe_tup (pa_cons (pv 6) pa_nil))))))))))) (pss_one (ps_set (i := 2) scAll.nd rfl (Or.inl rfl) (pv 4))))))
       (pss_one (ps_ret (pv 2))))), ?_⟩
    refine ⟨by show 0 ≤ sizeLine; decide, fun p0 h0 => ⟨by show 1 ≤ sizeLine; decide, fun L0 hL0 => ?_⟩⟩
    have s0 := Same.trans (same_new (o := .tup []) h0) (same_new (o := .lst [.ref p0]) hL0)
    have r0 : RowsAt (upd (upd H p0 (.tup [])) L0 (.lst [.ref p0])) L0 (allRows z 0) := ⟨[p0], upd_same, .cons (same_new hL0 _ _ upd_same) .nil⟩
    refine ⟨_, rfl, n, rfl, by omega, by omega, ?_⟩
    rw [Int.toNat_natCast]
    refine for_it (walk_rangeN (n := n)) (fun k σ H' => (∃ L v3 v4 v5, σ = [some (.int n), some (.int z), some (.ref L), v3, v4, v5, none] ∧ RowsAt H' L (allRows z k)) ∧ Same H H')
      ⟨⟨L0, _, _, _, rfl, r0⟩, s0⟩ (fun _ _ _ _ _ => True.intro) ?_ ?_
    · rintro k x σ H1 H1' hk ⟨⟨L, v3, v4, v5, rfl, as, hL, hp⟩, s1⟩ ⟨rfl, rfl⟩
      refine ⟨by show 0 ≤ sizeLine; decide, fun G0 hG0 => ?_⟩
      have la : as.length = (allRows z k).length := Paired.length hp
      have hla : (allRows z k).length ≤ 361 := by
        have h1 := len_all z k
        have h2 : 19 ^ k ≤ 19 ^ 2 := Nat.pow_le_pow_right (by omega) (by omega)
        omega
      have sG := same_new (o := .lst []) hG0
      refine ⟨_, rfl, L, rfl, ⟨_, SqL.of (sG _ _ hL)⟩, ?_⟩
      refine for_it (walk_list (xs := as.map V.ref)) (fun j σ H' => (∃ G v5, σ = [some (.int n), some (.int z), some (.ref L), some (.int (k : Nat)), some (.ref G), v5, none] ∧ H1' G = none ∧ RowsAt H' G (((allRows z k).take j).flatMap (moreRow z k))) ∧ Same H1' H')
        ⟨⟨G0, _, rfl, hG0, [], upd_same, .nil⟩, sG⟩ (fun j σ H' _ p => SqL.of (p.2 _ _ hL)) ?_ ?_
      · rintro j x σ H2 H2' hj ⟨⟨G, v5, rfl, hG, bs, hGl, hbs⟩, s2⟩ ⟨rfl, hx⟩
        rw [List.getElem?_map] at hx
        obtain ⟨pr, hpr, rfl⟩ := Option.map_eq_some_iff.mp hx
        obtain ⟨row, hrow, hpr2⟩ := paired_get hp hpr
        have hpr3 := s2 _ _ hpr2
        have hj2 : j < 361 := by
          rw [List.length_map, la] at hj
          omega
        have lbs : bs.length ≤ 19 * j := by
          have h1 := Paired.length hbs
          have h2 : ∀ l : List (List Int), (l.flatMap (moreRow z k)).length ≤ l.length * 19 := fun l => by
            induction l with
            | nil => exact Nat.le_refl _
            | cons a l ih =>
              have := len_more z k a
              rw [List.flatMap_cons, List.length_append, List.length_cons]
              omega
          have h3 := h2 ((allRows z k).take j)
          rw [List.length_take] at h3
          omega
        have lrow : row.length = k := (mem_all.mp (List.mem_of_getElem? hrow)).1
        have eT : ((allRows z k).take (j + 1)).flatMap (moreRow z k) = ((allRows z k).take j).flatMap (moreRow z k) ++ moreRow z k row := by
          rw [List.take_add_one, hrow, List.flatMap_append]
          simp
        rw [eT]
        generalize ((allRows z k).take j).flatMap (moreRow z k) = rows at hbs
        refine ⟨_, rfl, _, rfl, rfl, _, rfl, ite2 (fun y => ?_) fun y => ?_⟩
        · have y' : ((k : Nat) : Int) = z := V.int.inj (of_decide_eq_true y)
          have em : moreRow z k row = [row ++ [0]] := if_pos y'
          rw [em]
          refine ⟨_, rfl, .inl ⟨rfl, _, SqL.of hGl⟩, _, rfl, by show 1 ≤ sizeLine; decide, fun p1 h1 => ?_⟩
          have s3 := same_new (o := .tup [.int 0]) h1
          refine catA_any (SqT.of (s3 _ _ hpr3)) upd_same (by simp) (by rw [List.length_map, lrow]; show k + 1 ≤ sizeLine; exact Nat.le_of_lt (small1000 (by omega))) fun p2 H3 s4 hp2 => ?_
          have s34 := Same.trans s3 s4
          have hG3 := s34 _ _ hGl
          refine ⟨G, _, _, rfl, rfl, hG3, by rw [List.length_map]; exact Nat.lt_of_le_of_lt (by omega : _ ≤ 10000) (by decide), ⟨G, _, rfl, hG, bs ++ [p2], by rw [upd_same, List.map_append]; rfl, ?_⟩, same_mut (Same.trans s2 s34) hG⟩
          have tG : TSame H3 (upd H3 G (.lst (bs.map V.ref ++ [.ref p2]))) := tsame_put fun xs q => by
            rw [hG3] at q
            cases q
          refine paired_snoc ((hbs.t (Same.t s34)).t tG) (tG _ _ ?_)
          rw [hp2, List.map_append]
          rfl
        · have y' : ¬ ((k : Nat) : Int) = z := fun q => y (decide_eq_true (by rw [q]))
          have em : moreRow z k row = rg19.map fun t => row ++ [t] := if_neg y'
          rw [em]
          refine ⟨_, rfl, _, rfl, -9, 10, rfl, by decide, fun C hC => ?_⟩
          have s3 := same_new (o := .lst []) hC
          refine lc_it (walk_range (lo := -9) (n := 19)) (fun i H' => Same H2' H' ∧ ∃ cs, H' C = some (.lst (cs.map V.ref)) ∧ RowsP H' cs ((List.range i).map fun (i : Nat) => row ++ [-9 + (i : Int)])) ⟨s3, [], upd_same, .nil⟩ (fun _ _ _ _ => True.intro) ?_ ?_
          · rintro i x H3 H3' hi ⟨s4, cs, hC3, hcs⟩ ⟨rfl, rfl⟩
            refine ⟨rfl, yes_in ⟨_, rfl, _, rfl, by show 1 ≤ sizeLine; decide, fun p1 h1 => ?_⟩⟩
            have s5 := same_new (o := .tup [.int (-9 + (i : Nat))]) h1
            refine catA_any (SqT.of (Same.trans s4 s5 _ _ hpr3)) upd_same (by simp) (by rw [List.length_map, lrow]; show k + 1 ≤ sizeLine; exact Nat.le_of_lt (small1000 (by omega))) fun p2 H4 s6 hp2 => ?_
            have s56 := Same.trans s5 s6
            have hC4 := s56 _ _ hC3
            have lcs : cs.length = i := by
              have := Paired.length hcs
              rw [List.length_map, List.length_range] at this
              exact this
            refine ⟨_, hC4, by rw [List.length_map, lcs]; exact small1000 (by omega), same_mut (Same.trans s4 s56) hC, cs ++ [p2], by rw [upd_same, List.map_append]; rfl, ?_⟩
            have tC : TSame H4 (upd H4 C (.lst (cs.map V.ref ++ [.ref p2]))) := tsame_put fun xs q => by
              rw [hC4] at q
              cases q
            rw [List.range_succ, List.map_append]
            refine paired_snoc ((hcs.t (Same.t s56)).t tC) (tC _ _ ?_)
            rw [hp2, List.map_append]
            rfl
          · rintro H3 ⟨s4, cs, hC3, hcs⟩
            have lcs : cs.length = 19 := by
              have := Paired.length hcs
              rw [List.length_map, List.length_range] at this
              exact this
            have hG3 := s4 _ _ hGl
            refine ⟨G, C, _, _, rfl, rfl, hG3, hC3, by rw [List.length_map, List.length_map, lcs]; exact Nat.le_trans (by omega : _ ≤ 10000) (by decide), fun G' hG' => ?_⟩
            have s5 := same_new (o := .lst (bs.map V.ref ++ cs.map V.ref)) hG'
            refine ⟨⟨G', _, rfl, (Same.trans s2 s4).free hG', bs ++ cs, by rw [upd_same, List.map_append], ?_⟩, Same.trans s2 (Same.trans s4 s5)⟩
            have er : (rg19.map fun t => row ++ [t]) = (List.range 19).map fun (i : Nat) => row ++ [-9 + (i : Int)] := by
              unfold rg19
              rw [List.map_map]
              rfl
            rw [er]
            exact paired_app ((hbs.t (Same.t s4)).t (Same.t s5)) (hcs.t (Same.t s5))
      · rintro σ H2 ⟨⟨G, v5, rfl, hG, hrows⟩, s2⟩
        rw [List.length_map, la, List.take_length] at hrows
        exact ⟨_, rfl, ⟨G, _, _, _, rfl, hrows⟩, Same.trans s1 s2⟩
    · rintro σ H1 ⟨⟨L, v3, v4, v5, rfl, hrows⟩, s1⟩
      exact ⟨_, rfl, q H1 L s1 hrows⟩
end
end Ab

namespace Ab
open PySem PySem.Spec PyProof.Rows L2

theorem at_in {bs : List Int} {i : Int} {P : Int → Prop} (h : ∀ b ∈ bs, P b) (h0 : 0 ≤ i) (h1 : i < bs.length) : P (at_ bs i) := by
  have hl : i.toNat < bs.length := by omega
  unfold at_
  rw [List.getD_eq_getElem?_getD, List.getElem?_eq_getElem hl]
  exact h _ (List.getElem_mem hl)
def loOf (pick low : Int) : Option Int := if pick = 3 then none else some low
def hiOf (pick high : Int) : Option Int := if pick = 2 then none else some high
theorem at_lo {pick l : Int} (h0 : 0 ≤ pick) (h1 : pick < 4) : atI [V.int l, V.int l, V.int l, V.non] pick = some (oV (loOf pick l)) := by
  have : pick = 0 ∨ pick = 1 ∨ pick = 2 ∨ pick = 3 := by omega
  rcases this with e | e | e | e <;> subst e <;> rfl
theorem at_hi {pick l : Int} (h0 : 0 ≤ pick) (h1 : pick < 4) : atI [V.int l, V.int l, V.non, V.int l] pick = some (oV (hiOf pick l)) := by
  have : pick = 0 ∨ pick = 1 ∨ pick = 2 ∨ pick = 3 := by omega
  rcases this with e | e | e | e <;> subst e <;> rfl
abbrev RlsP (H : Hp) : List Addr → List Rl → Prop := Paired fun p r => H p = some (.tup (rlV r))
theorem StAt.nt {H : Hp} {S L : Addr} (h : StAt H S L) : ∀ xs, H S ≠ some (.tup xs) := by
  obtain ⟨ns, c, k, hS, _⟩ := h
  intro xs z
  rw [hS] at z
  cases z
theorem StAt.keep {H H' : Hp} {S L : Addr} (h : StAt H S L) (s : ∀ b o, (b = S ∨ b = L) → H b = some o → H' b = some o) : StAt H' S L := by
  obtain ⟨ns, c, k, h1, h2, h3⟩ := h
  exact ⟨ns, c, k, s _ _ (.inl rfl) h1, s _ _ (.inr rfl) h2, h3⟩
theorem StAt.same {H H' : Hp} {S L : Addr} (h : StAt H S L) (s : Same H H') : StAt H' S L := h.keep fun b o _ => s b o
theorem StAt.there {H : Hp} {S L : Addr} (h : StAt H S L) : (∃ o, H S = some o) ∧ ∃ o, H L = some o := by
  obtain ⟨ns, c, k, h1, h2, h3⟩ := h
  exact ⟨⟨_, h1⟩, _, h2⟩
theorem StAt.put {H0 H : Hp} {S L p : Addr} {o : HO} (h : StAt H S L) (h0 : StAt H0 S L) (hp : H0 p = none) : StAt (upd H p o) S L := by
  obtain ⟨⟨o1, e1⟩, o2, e2⟩ := h0.there
  refine h.keep fun b u hb e => ?_
  have ne : b ≠ p := by
    rcases hb with z | z
    · rw [z]
      exact ne_of_none e1 hp
    · rw [z]
      exact ne_of_none e2 hp
  rw [upd_ne ne]
  exact e
theorem SameX.mut {D p : Addr} {H H' : Hp} {o : HO} (a : SameX D H H') (h : H p = none) : SameX D H (upd H' p o) := fun c u n e => by
  rw [upd_ne (ne_of_none e h)]
  exact a c u n e
/-- while the net is drawn: the stream at S, the base heights at B, the rules so far at G (both made since H) -/
structure Dr (S L B G : Addr) (H H' : Hp) (bs : List Int) (rs : List Rl) : Prop where
  sx : SameX S H H'
  st : StAt H' S L
  hb : H' B = some (.lst (bs.map V.int))
  hg : ∃ as : List Addr, H' G = some (.lst (as.map V.ref)) ∧ RlsP H' as rs
theorem Dr.draw {S L B G : Addr} {H H1 H2 : Hp} {bs : List Int} {rs : List Rl} (d : Dr S L B G H H1 bs rs) (nB : B ≠ S) (nG : G ≠ S) (s : SameX S H1 H2) (st : StAt H2 S L) : Dr S L B G H H2 bs rs := by
  obtain ⟨as, h1, h2⟩ := d.hg
  exact ⟨d.sx.trans s, st, s _ _ nB d.hb, as, s _ _ nG h1, paired_imp (fun p r q => (s.t d.st.nt) _ _ q) h2⟩
theorem Dr.same {S L B G : Addr} {H H1 H2 : Hp} {bs : List Int} {rs : List Rl} (d : Dr S L B G H H1 bs rs) (s : Same H1 H2) : Dr S L B G H H2 bs rs := by
  obtain ⟨as, h1, h2⟩ := d.hg
  exact ⟨d.sx.trans (Same.x s), d.st.same s, s _ _ d.hb, as, s _ _ h1, paired_imp (fun p r q => s _ _ q) h2⟩
/-- one more rule -/
theorem Dr.add {S L B G : Addr} {H H1 : Hp} {bs : List Int} {rs : List Rl} {r : Rl} {xs : List V} {p : Addr} (d : Dr S L B G H H1 bs rs) (h0 : StAt H S L) (nBG : B ≠ G) (hG0 : H G = none) (hx : H1 G = some (.lst xs)) (hp : H1 p = some (.tup (rlV r))) :
    Dr S L B G H (upd H1 G (.lst (xs ++ [.ref p]))) bs (rs ++ [r]) := by
  obtain ⟨as, h1, h2⟩ := d.hg
  rw [hx] at h1
  cases h1
  have t : TSame H1 (upd H1 G (.lst (as.map V.ref ++ [.ref p]))) := tsame_put fun xs z => by
    rw [hx] at z
    cases z
  refine ⟨d.sx.mut hG0, d.st.put h0 hG0, by rw [upd_ne nBG]; exact d.hb, as ++ [p], by rw [upd_same, List.map_append]; rfl, ?_⟩
  exact paired_snoc (paired_imp (fun p r q => t _ _ q) h2) (t _ _ hp)
section
variable {P : Program} {w : World} {K : PySem.W.Frag} {mg : Str → Option Value} {base : Heap}
def spDraw : Sp := fun vs H Q _ => ∃ (S L : Addr), vs = [.ref S, .int 3, .int 4, .int 4] ∧ StAt H S L ∧ ∀ H' a n rs, SameX S H H' → StAt H' S L → NetAt H' a n rs → NetOk n rs → Q (.ref a) H'
theorem scDraw : FnScope ["_law_stream_here", "_law_most", "_law_rules", "_law_far", "_law_size", "_law_k", "_law_base", "_law_wild", "_law_found", "_law_start", "_law_end", "_law_low", "_law_high", "_law_pick"]
    ["_law_stream_here", "_law_most", "_law_rules", "_law_far"] (defScope (top 28)) := ⟨rfl, rfl, rfl, by decide +kernel, rfl, by decide +kernel, by decide +kernel⟩
theorem okDraw (T : Txt K mg) (cX : Cal P w K mg base 1 "_law_next" spNext) {f : Addr} {fd : FuncData} (F : Fun K "_law_net" "_law_net" (top 28) f fd) : FnOk P w K mg base CX0 2 f fd ["_law_stream_here", "_law_most", "_law_rules", "_law_far"] spDraw := by
  refine F.ok scDraw (fun vs H Q E h => ?_) (fun cdv A outer s H vs Q E hr h => ?_)
  · obtain ⟨S, L, rfl, _⟩ := h
    rfl
  · obtain ⟨S, L, rfl, hst, q⟩ := h
    refine ⟨_, (pss_cons (ps_set (i := 4) scDraw.nd rfl (Or.inl rfl) (pe_op op_add pe_int (pe_k cX hr (by decide) (by rfl) (pa_cons (pv 0) (pa_cons (pv 1) pa_nil)))))
       (pss_cons (ps_setLc (i := 6) (own := [("_law_k", 5)]) (g := gName 5) (tt := tYes) rfl scDraw.nd rfl rfl (sw_true rfl rfl rfl (by decide +kernel)) (pi_range1 (by rfl) T.bRange (pa_cons (pv 4) pa_nil)) (blkOk_by (N := ["_law_stream_here", "_law_most", "_law_rules", "_law_far", "_law_size", "_law_k", "_law_base", "_law_wild", "_law_found", "_law_start", "_law_end", "_law_low", "_law_high", "_law_pick"]) (sc := (defScope (top 28))) (by decide +kernel)) (fun _ _ _ _ _ => pg_name (i := 5) scDraw.nd rfl (Or.inl rfl)) (fun _ _ _ _ _ => pts_nil) (fun _ _ _ _ _ => (pe_k cX hr (by decide) (by rfl) (pa_cons (pv 0) (pa_cons (pe_op op_add (pv 3) pe_int) pa_nil)))))
       (pss_cons (ps_set (i := 7) scDraw.nd rfl (Or.inl rfl) (pe_k cX hr (by decide) (by rfl) (pa_cons (pv 0) (pa_cons pe_int pa_nil))))
       (pss_cons (ps_set (i := 8) scDraw.nd rfl (Or.inl rfl) (pe_lst pa_nil))
       (pss_cons (ps_for PassesOwn.never rfl (pi_range1 (by rfl) T.bRange (pa_cons (pe_k cX hr (by decide) (by rfl) (pa_cons (pv 0) (pa_cons (pe_op op_add (pv 2) pe_int) pa_nil))) pa_nil)) (pg_name (i := 5) scDraw.nd rfl (Or.inl rfl)) (pss_cons (ps_set (i := 9) scDraw.nd rfl (Or.inl rfl) (pe_k cX hr (by decide) (by rfl) (pa_cons (pv 0) (pa_cons (pv 4) pa_nil)))) (pss_cons (ps_set (i := 10) scDraw.nd rfl (Or.inl rfl) (pe_k cX hr (by decide) (by rfl) (pa_cons (pv 0) (pa_cons (pv 4) pa_nil)))) (pss_cons (ps_set (i := 11) scDraw.nd rfl (Or.inl rfl) (pe_op op_sub (pe_k cX hr (by decide) (by rfl) (pa_cons (pv 0) (pa_cons (pe_op op_add (pe_op op_mul pe_int (pv 3)) pe_int) pa_nil))) (pv 3))) (pss_cons (ps_set (i := 12) scDraw.nd rfl (Or.inl rfl) (pe_op op_add (pv 11) (pe_k cX hr (by decide) (by rfl) (pa_cons (pv 0) (pa_cons (pe_op op_add (pe_op op_sub (pv 3) (pv 11)) pe_int) pa_nil))))) (pss_cons (ps_set (i := 13) scDraw.nd rfl (Or.inl rfl) (pe_k cX hr (by decide) (by rfl) (pa_cons (pv 0) (pa_cons pe_int pa_nil)))) (C8.pss_cut (ps_if (PW.pt (pw_and (pt_cmpR op_gt (pv 7) pe_int (nomark _)) (pw_and1 (PW.pt (pw_or (pt_cmpR op_eq (pv 7) pe_int (nomark _)) (pw_or1 (pt_cmpR op_gt (pe_k cX hr (by decide) (by rfl) (pa_cons (pv 0) (pa_cons pe_int pa_nil))) pe_int (nomark _)))))))) (pss_cons (ps_set (i := 11) scDraw.nd rfl (Or.inl rfl) (pe_callB (call_min2 rfl) (by rfl) T.bMin (by decide +kernel) (pa_cons (pv 11) (pa_cons (pe_op op_sub (pe_ix (ixL K) (pv 6) (pv 10) (fun _ _ => rfl)) (pe_ix (ixL K) (pv 6) (pv 9) (fun _ _ => rfl))) pa_nil)))) (pss_one (ps_set (i := 12) scDraw.nd rfl (Or.inl rfl) (pe_callB (call_max2 rfl) (by rfl) T.bMax (by decide +kernel) (pa_cons (pv 12) (pa_cons (pe_op op_sub (pe_ix (ixL K) (pv 6) (pv 10) (fun _ _ => rfl)) (pe_ix (ixL K) (pv 6) (pv 9) (fun _ _ => rfl))) pa_nil)))))) pss_nil) (pss_one (ps_if (pt_cmpR op_ne (pv 9) (pv 10) (nomark _)) (pss_one (ps_expr (pe_bm PySem.F.plainAttrs_list PySem.F.slot_list_append PySem.F.type_list_append mt_append (pv 8) (pa_cons (pe_tup (pa_cons (pv 9) (pa_cons (pv 10) (pa_cons (pe_ix (ixL K) (pe_lst (pa_cons (pv 11) (pa_cons (pv 11) (pa_cons (pv 11) (pa_cons pe_non pa_nil))))) (pv 13) (fun _ _ => rfl)) (pa_cons (pe_ix (ixL K) (pe_lst (pa_cons (pv 12) (pa_cons (pv 12) (pa_cons pe_non (pa_cons (pv 12) pa_nil))))) (pv 13) (fun _ _ => rfl)) pa_nil))))) pa_nil)))) pss_nil)))))))))
       (pss_one (ps_ret (pe_tup (pa_cons (pv 4) (pa_cons (pe_tupK K (by rfl) T.bTup (pv 8)) pa_nil)))))))))), ?_⟩
    refine ⟨_, rfl, _, rfl, S, L, _, rfl, hst, by decide, by decide, fun H1 d sx1 st1 d0 d1 => ⟨_, _, rfl, rfl, ?_⟩⟩
    obtain ⟨n, hn⟩ : ∃ n : Nat, 1 + d = (n : Int) := ⟨(1 + d).toNat, by omega⟩
    have n1 : 1 ≤ n := by omega
    have n3 : n ≤ 3 := by omega
    show tSeq _ _ _ [some (.ref S), some (.int 3), some (.int 4), some (.int 4), some (.int (1 + d)), none, none, none, none, none, none, none, none, none] H1
    rw [hn]
    -- the base heights
    refine ⟨_, rfl, n, rfl, by omega, by omega, fun B hB => ?_⟩
    obtain ⟨⟨oS, eS⟩, oL, eL⟩ := st1.there
    have nB : B ≠ S := (ne_of_none eS hB).symm
    refine lc_it (walk_rangeN (n := n)) (fun i H' => SameX S H1 H' ∧ StAt H' S L ∧ ∃ bs : List Int, H' B = some (.lst (bs.map V.int)) ∧ bs.length = i ∧ ∀ b ∈ bs, 0 ≤ b ∧ b ≤ 4) ⟨Same.x (same_new hB), st1.same (same_new hB), [], upd_same, rfl, fun b hb => by cases hb⟩ (fun _ _ _ _ => True.intro) ?_ ?_
    · rintro i x H2 H2' hi ⟨sx2, st2, bs, hb2, hbl, hbs⟩ ⟨rfl, rfl⟩
      refine ⟨rfl, yes_in ⟨_, rfl, _, rfl, _, _, rfl, rfl, S, L, _, rfl, st2, (by show (0 : Int) < 5; decide), (by show (5 : Int) ≤ 1000; decide), fun H3 x3 sx3 st3 x0 x1 => ?_⟩⟩
      have x1 : x3 < 5 := x1
      refine ⟨_, sx3 _ _ nB hb2, by rw [List.length_map, hbl]; exact small1000 (by omega), (sx2.trans sx3).mut hB, st3.put st1 hB, bs ++ [x3], by rw [upd_same, List.map_append]; rfl, by rw [List.length_append, hbl]; rfl, fun b hb => ?_⟩
      rcases List.mem_append.mp hb with z | z
      · exact hbs b z
      · rw [List.mem_singleton.mp z]
        omega
    · rintro H2 ⟨sx2, st2, bs, hb2, hbl, hbs⟩
      -- the wildness, the rules
      refine ⟨_, rfl, S, L, _, rfl, st2, by decide, by decide, fun H3 wild sx3 st3 w0 w1 => ?_⟩
      refine ⟨by show 0 ≤ sizeLine; decide, fun G hG => ?_⟩
      have hb3 := sx3 _ _ nB hb2
      have sx123 := sx1.trans (sx2.trans sx3)
      have d0 : Dr S L B G H3 (upd H3 G (.lst [])) bs [] := ⟨Same.x (same_new hG), st3.same (same_new hG), same_new hG _ _ hb3, [], upd_same, .nil⟩
      have nG : G ≠ S := by
        obtain ⟨⟨o, e⟩, _⟩ := st3.there
        exact (ne_of_none e hG).symm
      have nBG : B ≠ G := ne_of_none hb3 hG
      refine ⟨_, rfl, _, rfl, _, _, rfl, rfl, S, L, _, rfl, d0.st, (by show (0 : Int) < 5; decide), (by show (5 : Int) ≤ 1000; decide), fun H4 many sx4 st4 m0 m1 => ⟨many, rfl, by omega, by have : many < 5 := m1; omega, ?_⟩⟩
      have m1 : many < 5 := m1
      have d1' := d0.draw nB nG sx4 st4
      refine for_it (walk_rangeN (n := many.toNat)) (fun i σ H' => (∃ v5 v9 v10 v11 v12 v13, σ = [some (.ref S), some (.int 3), some (.int 4), some (.int 4), some (.int n), v5, some (.ref B), some (.int wild), some (.ref G), v9, v10, v11, v12, v13]) ∧
          ∃ rs, Dr S L B G H3 H' bs rs ∧ rs.length ≤ i ∧ ∀ r ∈ rs, RlOk n r)
        ⟨⟨_, _, _, _, _, _, rfl⟩, [], d1', Nat.le_refl _, fun r hr => by cases hr⟩ (fun _ _ _ _ _ => True.intro) ?_ ?_
      · rintro i x σ H5 H5' hi ⟨⟨v5, v9, v10, v11, v12, v13, rfl⟩, rs, d5, hrl, hro⟩ ⟨rfl, rfl⟩
        refine ⟨_, rfl, _, rfl, S, L, _, rfl, d5.st, by omega, by omega, fun H6 st sx6 st6 a0 a1 => ?_⟩
        have d6 := d5.draw nB nG sx6 st6
        refine ⟨_, rfl, _, rfl, S, L, _, rfl, d6.st, by omega, by omega, fun H7 en sx7 st7 b0 b1 => ?_⟩
        have d7 := d6.draw nB nG sx7 st7
        refine ⟨_, rfl, _, rfl, _, _, rfl, rfl, .inl ⟨by decide, by decide⟩, _, _, rfl, rfl, S, L, _, rfl, d7.st, (by show (0 : Int) < 9; decide), (by show (9 : Int) ≤ 1000; decide), fun H8 lo sx8 st8 c0 c1 => ⟨_, rfl, _, _, rfl, rfl, ?_⟩⟩
        have c1 : lo < 9 := c1
        have d8 := d7.draw nB nG sx8 st8
        refine ⟨_, rfl, _, rfl, _, rfl, _, rfl, _, _, rfl, rfl, _, _, rfl, rfl, S, L, 4 - (lo - 4) + 1, rfl, d8.st, by omega, by omega, fun H9 hi9 sx9 st9 e0 e1 => ⟨_, _, rfl, rfl, ?_⟩⟩
        have d9 := d8.draw nB nG sx9 st9
        refine ⟨_, rfl, S, L, _, rfl, d9.st, by decide, by decide, fun H10 pick sx10 st10 p0 p1 => ?_⟩
        have d10 := d9.draw nB nG sx10 st10
        have hen : en < bs.length := by omega
        have hst' : st < bs.length := by omega
        have ge := at_in (P := fun b => 0 ≤ b ∧ b ≤ 4) hbs b0 hen
        have gs := at_in (P := fun b => 0 ≤ b ∧ b ≤ 4) hbs a0 hst'
        have ge1 := ge.1
        have ge2 := ge.2
        have gs1 := gs.1
        have gs2 := gs.2
        have least : ∀ x y : Int, (-4 ≤ x ∧ x ≤ 4) → (-4 ≤ y ∧ y ≤ 4) → -4 ≤ (if y < x then y else x) ∧ (if y < x then y else x) ≤ 4 := fun x y hx hy => by
          split <;> omega
        have most : ∀ x y : Int, (-4 ≤ x ∧ x ≤ 4) → (-4 ≤ y ∧ y ≤ 4) → -4 ≤ (if y > x then y else x) ∧ (if y > x then y else x) ≤ 4 := fun x y hx hy => by
          split <;> omega
        refine ⟨fun σ H' => ∃ low high : Int, σ = [some (.ref S), some (.int 3), some (.int 4), some (.int 4), some (.int n), some (.int (i : Nat)), some (.ref B), some (.int wild), some (.ref G), some (.int st), some (.int en), some (.int low), some (.int high), some (.int pick)] ∧
          -4 ≤ low ∧ low ≤ 4 ∧ -4 ≤ high ∧ high ≤ 4 ∧ Dr S L B G H3 H' bs rs, ?_, ?_⟩
        · refine ⟨_, rfl, _, _, rfl, rfl, _, rfl, ite2 (fun y => ?_) fun y => ?_⟩
          · refine ⟨_, rfl, rfl, _, rfl, ite2 (fun y2 => iteT ?_) fun y2 => ?_⟩
            · refine ⟨_, rfl, _, rfl, _, rfl, B, _, _, _, rfl, rfl, SqL.of d10.hb, rowAt b0 hen, _, rfl, _, rfl, B, _, _, _, rfl, rfl, SqL.of d10.hb, rowAt a0 hst', _, _, rfl, rfl, _, _, rfl, ?_⟩
              refine ⟨_, rfl, _, rfl, _, rfl, B, _, _, _, rfl, rfl, SqL.of d10.hb, rowAt b0 hen, _, rfl, _, rfl, B, _, _, _, rfl, rfl, SqL.of d10.hb, rowAt a0 hst', _, _, rfl, rfl, _, _, rfl, ?_⟩
              exact ⟨_, _, rfl, (least _ _ (by omega) (by omega)).1, (least _ _ (by omega) (by omega)).2, (most _ _ (by omega) (by omega)).1, (most _ _ (by omega) (by omega)).2, d10⟩
            · refine ⟨_, rfl, S, L, _, rfl, d10.st, by decide, by decide, fun H11 z sx11 st11 z0 z1 => ⟨_, _, rfl, rfl, _, rfl, ite2 (fun y3 => ?_) fun y3 => ?_⟩⟩
              · have d11 := d10.draw nB nG sx11 st11
                refine ⟨_, rfl, _, rfl, _, rfl, B, _, _, _, rfl, rfl, SqL.of d11.hb, rowAt b0 hen, _, rfl, _, rfl, B, _, _, _, rfl, rfl, SqL.of d11.hb, rowAt a0 hst', _, _, rfl, rfl, _, _, rfl, ?_⟩
                refine ⟨_, rfl, _, rfl, _, rfl, B, _, _, _, rfl, rfl, SqL.of d11.hb, rowAt b0 hen, _, rfl, _, rfl, B, _, _, _, rfl, rfl, SqL.of d11.hb, rowAt a0 hst', _, _, rfl, rfl, _, _, rfl, ?_⟩
                exact ⟨_, _, rfl, (least _ _ (by omega) (by omega)).1, (least _ _ (by omega) (by omega)).2, (most _ _ (by omega) (by omega)).1, (most _ _ (by omega) (by omega)).2, d11⟩
              · exact ⟨_, _, rfl, by omega, by omega, by omega, by omega, d10.draw nB nG sx11 st11⟩
          · exact iteF ⟨_, _, rfl, by omega, by omega, by omega, by omega, d10⟩
        · rintro σ H11 ⟨low, high, rfl, l0, l1, h0, h1, d11⟩
          refine ⟨_, rfl, _, rfl, rfl, _, rfl, ite2 (fun y => ?_) fun y => ?_⟩
          · have hne : st ≠ en := fun z => by
              rw [z] at y
              simp at y
            obtain ⟨as, hg, hp⟩ := d11.hg
            have las : as.length = rs.length := Paired.length hp
            refine ⟨_, rfl, .inl ⟨rfl, _, SqL.of hg⟩, _, rfl, _, rfl, _, rfl, _, rfl, _, rfl, by show 4 ≤ sizeLine; decide, fun q1 g1 => ?_⟩
            refine ⟨_, rfl, q1, _, _, _, rfl, rfl, SqL.of upd_same, at_lo p0 p1, _, rfl, _, rfl, _, rfl, by show 4 ≤ sizeLine; decide, fun q2 g2 => ?_⟩
            refine ⟨_, rfl, q2, _, _, _, rfl, rfl, SqL.of upd_same, at_hi p0 p1, by show 4 ≤ sizeLine; decide, fun q3 g3 => ?_⟩
            have s3 := Same.trans (Same.trans (same_new g1) (same_new g2)) (same_new (o := .tup [.int st, .int en, oV (loOf pick low), oV (hiOf pick high)]) g3)
            have d12 := d11.same s3
            have hg12 := s3 _ _ hg
            refine ⟨G, _, _, rfl, rfl, hg12, by rw [List.length_map, las]; exact small1000 (by omega), ?_⟩
            refine ⟨⟨_, _, _, _, _, _, rfl⟩, rs ++ [⟨st, en, loOf pick low, hiOf pick high⟩], d12.add (r := ⟨st, en, loOf pick low, hiOf pick high⟩) st3 nBG hG hg12 upd_same, by rw [List.length_append]; show rs.length + 1 ≤ i + 1; omega, fun r hr => ?_⟩
            rcases List.mem_append.mp hr with z | z
            · exact hro r z
            · obtain rfl := List.mem_singleton.mp z
              refine ⟨a0, a1, b0, b1, hne, fun x hx => ?_, fun x hx => ?_, ?_⟩
              · have hx : loOf pick low = some x := hx
                unfold loOf at hx
                split at hx
                · cases hx
                · cases hx
                  exact ⟨l0, l1⟩
              · have hx : hiOf pick high = some x := hx
                unfold hiOf at hx
                split at hx
                · cases hx
                · cases hx
                  exact ⟨h0, h1⟩
              · show loOf pick low ≠ none ∨ hiOf pick high ≠ none
                unfold loOf hiOf
                by_cases z : pick = 3
                · right
                  rw [if_neg (by omega)]
                  exact fun q => nomatch q
                · left
                  rw [if_neg z]
                  exact fun q => nomatch q
          · exact ⟨⟨_, _, _, _, _, _, rfl⟩, rs, d11, by omega, hro⟩
      · rintro σ H5 ⟨⟨v5, v9, v10, v11, v12, v13, rfl⟩, rs, d5, hrl, hro⟩
        obtain ⟨as, hg, hp⟩ := d5.hg
        refine ⟨_, rfl, _, rfl, .inl ⟨G, _, rfl, SqL.of hg, fun t ht => ⟨by show 2 ≤ sizeLine; decide, fun a ha => ?_⟩⟩⟩
        have s1 := same_new (o := .tup (as.map V.ref)) ht
        have s2 := Same.trans s1 (same_new (o := .tup [.int n, .ref t]) ha)
        exact q _ a n rs (sx123.trans (d5.sx.trans (Same.x s2))) (d5.st.same s2) ⟨t, upd_same, as, same_new ha _ _ upd_same, paired_imp (fun p r z => s2 _ _ z) hp⟩ ⟨n1, n3, by omega, hro⟩
end
end Ab

/-! What the law's own comprehensions and comparisons read. -/
namespace Ab
open PySem PySem.Spec PyProof.Rows L2

section
variable {X : Cx}
theorem opIn (K : PySem.W.Frag) (h : X.K = K := by rfl) : OpR X (compareOp .In) (rIn K false) := by
  subst h
  exact op_in_seq
end
/-- [e for x in xs], the list in slot s, x in slot k: the items come out one by one -/
theorem lc_var {K : PySem.W.Frag} {s k : Nat} {σ : L2.St} {H : Hp} {a : Addr} {xs ys : List V} {te : TE} {Q : VK} (hs : σ[s]? = some (some (.ref a))) (ha : H a = some (.lst xs)) (hy : ys.length = xs.length) (hl : xs.length ≤ 100000)
    (turn : ∀ (i : Nat) (x y : V) H' (N : VK), xs[i]? = some x → ys[i]? = some y → Same H H' → (∀ H4, Same H' H4 → N y H4) → te ((σ.set k none).set k (some x)) H' N)
    (q : ∀ H' C, Same H H' → H' C = some (.lst ys) → Q (.ref C) H') : tLc (iList K (tVar s)) (gName k) tYes te [k] σ H Q := by
  refine ⟨_, hs, a, rfl, ⟨_, SqL.of ha⟩, fun C hC => ?_⟩
  refine lc_it (walk_list (xs := xs)) (fun i H' => Same H H' ∧ H' C = some (.lst (ys.take i))) ⟨same_new hC, upd_same⟩ (fun i H' _ p => SqL.of (p.1 _ _ ha)) ?_ ?_
  · rintro i x H1 H1' hi ⟨s1, hl1⟩ ⟨rfl, hx⟩
    obtain ⟨y, hyi⟩ : ∃ y, ys[i]? = some y := ⟨ys[i], List.getElem?_eq_getElem (by omega)⟩
    refine ⟨?_, yes_in (turn i x y H1' _ hx hyi s1 fun H4 s4 => ⟨_, s4 _ _ hl1, ?_, same_mut (Same.trans s1 s4) hC, ?_⟩)⟩
    · show ((σ.set k none).set k (some x)).set k none = σ.set k none
      rw [List.set_set, List.set_set]
    · rw [List.length_take]
      exact Nat.lt_of_le_of_lt (by omega : _ ≤ 100000) (by decide)
    · rw [upd_same, List.take_add_one, hyi]
      rfl
  · rintro H1 ⟨s1, hl1⟩
    rw [← hy, List.take_length] at hl1
    exact q H1 C s1 hl1

/-! ### data and equality -/
abbrev dI (l : List Int) : List PyData := l.map PyData.int
theorem dp_ints {K : PySem.W.Frag} {H : Hp} : ∀ l : List Int, DpAll K H (l.map V.int) (dI l)
  | [] => .nil
  | i :: l => .cons (.int i) (dp_ints l)
theorem lay_ints : ∀ l : List Int, PyData.canLayAll0 (dI l) = true
  | [] => by simp only [dI, List.map_nil, PyData.canLayAll0]
  | i :: l => by
    have := lay_ints l
    simp only [dI, List.map_cons, PyData.canLayAll0, PyData.canLay0, Bool.true_and] at *
    exact this
theorem depth_ints : ∀ l : List Int, PyData.depthAll (dI l) = 0
  | [] => by simp only [dI, List.map_nil, PyData.depthAll]
  | i :: l => by
    have := depth_ints l
    simp only [dI, List.map_cons, PyData.depthAll, PyData.depth] at *
    omega
theorem shaped_ints (l : List Int) : SeqAt.shaped (.list (dI l)) = true := by
  unfold SeqAt.shaped
  rw [Bool.and_eq_true]
  refine ⟨by simp only [PyData.canLay0]; exact lay_ints l, decide_eq_true ?_⟩
  simp only [PyData.depth]
  rw [depth_ints]
  decide
abbrev dR (row : List Int) : PyData := .tuple (dI row)
theorem lay_row (row : List Int) : (dR row).canLay0 = true := by
  simp only [dR, PyData.canLay0]
  exact lay_ints row
theorem depth_row (row : List Int) : (dR row).depth = 1 := by
  simp only [dR, PyData.depth]
  rw [depth_ints]
theorem shaped_row (row : List Int) : SeqAt.shaped (dR row) = true := by
  unfold SeqAt.shaped
  rw [Bool.and_eq_true]
  refine ⟨lay_row row, decide_eq_true ?_⟩
  rw [depth_row]
  decide
theorem lay_rows : ∀ rows : List (List Int), PyData.canLayAll0 (rows.map dR) = true
  | [] => by simp only [List.map_nil, PyData.canLayAll0]
  | r :: rows => by
    have := lay_rows rows
    have h := lay_row r
    simp only [List.map_cons, PyData.canLayAll0, Bool.and_eq_true]
    exact ⟨h, this⟩
theorem depth_rows : ∀ rows : List (List Int), PyData.depthAll (rows.map dR) ≤ 1
  | [] => by simp only [List.map_nil, PyData.depthAll]; decide
  | r :: rows => by
    have := depth_rows rows
    have h := depth_row r
    simp only [List.map_cons, PyData.depthAll]
    omega
theorem shaped_rows (rows : List (List Int)) : SeqAt.shaped (.list (rows.map dR)) = true := by
  unfold SeqAt.shaped
  rw [Bool.and_eq_true]
  refine ⟨by simp only [PyData.canLay0]; exact lay_rows rows, decide_eq_true ?_⟩
  have := depth_rows rows
  simp only [PyData.depth]
  omega
theorem dp_rows {K : PySem.W.Frag} {H : Hp} {as : List Addr} {rows : List (List Int)} (h : RowsP H as rows) : DpAll K H (as.map V.ref) (rows.map dR) := by
  induction h with
  | nil => exact .nil
  | @cons p row as rows hp t ih => exact .cons (.tup (SqT.of hp) (dp_ints row)) ih
theorem any_row {rows : List (List Int)} {row : List Int} (h : row ∈ rows) : ((rows.map dR).any fun z => PyData.eqv z (dR row)) = true :=
  List.any_eq_true.mpr ⟨dR row, List.mem_map.mpr ⟨row, h, rfl⟩, SeqAt.eqv_refl _ (lay_row row)⟩
theorem inV_int (t : Int) (l : List Int) : inV (.int t) (l.map V.int) = decide (t ∈ l) := by
  unfold inV
  rw [List.any_map]
  by_cases h : t ∈ l
  · rw [decide_eq_true h]
    exact List.any_eq_true.mpr ⟨t, h, by show (t == t) = true; exact beq_self_eq_true t⟩
  · rw [decide_eq_false h]
    exact List.any_eq_false.mpr fun x hx => by
      show ¬ (x == t) = true
      rw [beq_iff_eq]
      intro e
      exact h (e ▸ hx)
theorem flat_ints (l : List Int) : (l.map V.int).all flatV = true := List.all_eq_true.mpr fun v hv => by
  obtain ⟨i, _, rfl⟩ := List.mem_map.mp hv
  rfl
/-- a row of bounds, known or not -/
theorem flat_opts (f : Nat → Option Int) (l : List Nat) : (l.map fun j => oV (f j)).all flatV = true := List.all_eq_true.mpr fun v hv => by
  obtain ⟨j, _, rfl⟩ := List.mem_map.mp hv
  cases f j <;> rfl
theorem inV_none (f : Nat → Option Int) (l : List Nat) : inV .non (l.map fun j => oV (f j)) = l.any fun j => (f j).isNone := by
  unfold inV
  rw [List.any_map]
  congr 1
  funext j
  show eqV (oV (f j)) .non = (f j).isNone
  cases f j <;> rfl
theorem inV_app (x : V) (xs ys : List V) : inV x (xs ++ ys) = (inV x xs || inV x ys) := List.any_append
end Ab

namespace Ab
open PySem PySem.Spec PyProof.Rows L2
section
variable {P : Program} {w : World} {K : PySem.W.Frag} {mg : Str → Option Value} {base : Heap}
theorem lc_stmt {s k i : Nat} {σ : L2.St} {H : Hp} {a : Addr} {xs ys : List V} {te : TE} {u : TS} {E : Ends} (hs : σ[s]? = some (some (.ref a))) (ha : H a = some (.lst xs)) (hy : ys.length = xs.length) (hl : xs.length ≤ 100000)
    (turn : ∀ (i : Nat) (x y : V) H' (N : VK), xs[i]? = some x → ys[i]? = some y → Same H H' → (∀ H4, Same H' H4 → N y H4) → te ((σ.set k none).set k (some x)) H' N)
    (q : ∀ H' C, Same H H' → H' C = some (.lst ys) → u E (σ.set i (some (.ref C))) H') : tSeq (tAsg (tLc (iList K (tVar s)) (gName k) tYes te [k]) (gName i)) u E σ H := by
  show tLc _ _ _ _ _ σ H (fun x H1 => u E (σ.set i (some x)) H1)
  exact lc_var hs ha hy hl turn q
theorem any_read {s k : Nat} {σ : L2.St} {H : Hp} {a : Addr} {xs : List V} {bs : List Bool} {te : TE} {Q : Bool → Hp → Prop} (hs : σ[s]? = some (some (.ref a))) (ha : H a = some (.lst xs)) (hy : bs.length = xs.length) (hl : xs.length ≤ 100000)
    (turn : ∀ (i : Nat) (x : V) (b : Bool) H' (N : VK), xs[i]? = some x → bs[i]? = some b → Same H H' → (∀ H4, Same H' H4 → N (.bl b) H4) → te ((σ.set k none).set k (some x)) H' N)
    (q : ∀ H', Same H H' → Q (bs.any id) H') : tB (tCB (rAny K) (tCons (tLc (iList K (tVar s)) (gName k) tYes te [k]) tNil)) σ H Q := by
  show tLc _ _ _ _ _ σ H (fun x H1 => rAny K [x] H1 fun y H2 => ∃ c, y = .bl c ∧ Q c H2)
  refine lc_var (ys := bs.map V.bl) hs ha (by rw [List.length_map]; exact hy) hl (fun i x y H' N hx hyi s1 n => ?_) fun H' C s1 hC => ⟨C, bs, rfl, SqL.of hC, _, rfl, q H' s1⟩
  rw [List.getElem?_map] at hyi
  obtain ⟨b, hb, rfl⟩ := Option.map_eq_some_iff.mp hyi
  exact turn i x b H' N hx hb s1 n
theorem at_rng {n : Nat} {f : Nat → V} {j : Nat} (h : j < n) : atI ((List.range n).map f) (j : Int) = some (f j) := by
  refine atI_nat ?_
  rw [List.getElem?_map, List.getElem?_range h]
  rfl
theorem told_at {H : Hp} {as : List Addr} {n : Nat} {f : Nat → HO} (h : Paired (fun p i => H p = some (f i)) as (List.range n)) {j : Nat} (hj : j < n) : ∃ p, as[j]? = some p ∧ H p = some (f j) := by
  have hl : as.length = n := by
    have := Paired.length h
    rw [List.length_range] at this
    exact this
  obtain ⟨p, hp⟩ : ∃ p, as[j]? = some p := ⟨as[j], List.getElem?_eq_getElem (by omega)⟩
  obtain ⟨i, hi, hH⟩ := paired_get h hp
  rw [List.getElem?_range hj] at hi
  cases hi
  exact ⟨p, hp, hH⟩
theorem ref_at {as : List Addr} {j : Nat} {p : Addr} (h : as[j]? = some p) : atI (as.map V.ref) (j : Int) = some (.ref p) := by
  refine atI_nat ?_
  rw [List.getElem?_map, h]
  rfl
theorem in_read {s k m : Nat} {σ : L2.St} {H : Hp} {a : Addr} {xs ys : List V} {te : TE} {Q : VK} (hs : σ[s]? = some (some (.ref a))) (ha : H a = some (.lst xs)) (hy : ys.length = xs.length) (hl : xs.length ≤ 100000)
    (turn : ∀ (i : Nat) (x y : V) H' (N : VK), xs[i]? = some x → ys[i]? = some y → Same H H' → (∀ H4, Same H' H4 → N y H4) → te ((σ.set k none).set k (some x)) H' N)
    (q : ∀ H' p, Same H H' → H' p = some (.tup ys) → tVar m σ H' fun y H2 => rInD K (.ref p) y H2 Q) : tOp (rInD K) (tThen (tLc (iList K (tVar s)) (gName k) tYes te [k]) (kTup K)) (tVar m) σ H Q := by
  show tLc _ _ _ _ _ σ H (fun x H1 => kTup K x H1 fun y H2 => tVar m σ H2 fun v H3 => rInD K y v H3 Q)
  exact lc_var hs ha hy hl turn fun H' C s1 hC => .inl ⟨C, ys, rfl, SqL.of hC, fun p hp => q _ p (Same.trans s1 (same_new hp)) upd_same⟩
theorem rgV_eq (a b : Int) : rgV a b = (rgI a b).map V.int := by
  unfold rgV rgI
  rw [List.map_map]
  rfl
theorem known_row {n : Nat} {f : Nat → Option Int} (h : ∀ j, j < n → (f j).isSome = true) : ((List.range n).map fun j => oV (f j)) = ((List.range n).map fun j => (f j).getD 0).map V.int := by
  rw [List.map_map]
  apply List.map_congr_left
  intro j hj
  obtain ⟨x, hx⟩ := Option.isSome_iff_exists.mp (h j (List.mem_range.mp hj))
  show oV (f j) = V.int ((f j).getD 0)
  rw [hx]
  rfl
theorem known_of {n : Nat} {f : Nat → Option Int} (h : inV .non ((List.range n).map fun j => oV (f j)) = false) : ∀ j, j < n → (f j).isSome = true := by
  intro j hj
  rw [inV_none] at h
  have := List.any_eq_false.mp h j (List.mem_range.mpr hj)
  cases e : f j with
  | none => rw [e] at this; exact absurd rfl this
  | some x => rfl
def spLaw (K : PySem.W.Frag) : Sp := fun vs H Q _ => ∃ (a : Addr) (ns : List Int), vs = [.ref a] ∧ SqL K H a (ns.map V.int) ∧ ns.length ≤ 63 ∧ ∀ H', Q (.bl true) H'
theorem scLaw : FnScope ["_law_script", "_law_stream_here", "_law_net_here", "_law_size", "_law_zero", "_law_kept", "_law_told", "_law_ahead", "_law_j", "_law_behind", "_law_there", "_law_row", "_law_one"] ["_law_script"] (defScope (top 38)) := ⟨rfl, rfl, rfl, by decide +kernel, rfl, by decide +kernel, by decide +kernel⟩
theorem okLaw (T : Txt K mg) (cSt : Cal P w K mg base 1 "_law_stream" (spStream K)) (cDr : Cal P w K mg base 2 "_law_net" spDraw) (cX : Cal P w K mg base 1 "_law_next" spNext) (cAl : Cal P w K mg base 1 "_law_all" spAll) (cHo : Cal P w K mg base 1 "_law_hold" spHold)
    (cCa : Cal P w K mg base 6 "can_keep" spCan) (cTi : Cal P w K mg base 7 "tight" spTight) {f : Addr} {fd : FuncData} (F : Fun K "law" "law" (top 38) f fd) : FnOk P w K mg base CX0 8 f fd ["_law_script"] (spLaw K) := by
  refine F.ok scLaw (fun vs H Q E h => ?_) (fun cdv A outer s H vs Q E hr h => ?_)
  · obtain ⟨a, ns, rfl, _⟩ := h
    rfl
  · obtain ⟨a, ns, rfl, ha, _, q⟩ := h
    have hu := hu_of hr
    have hu65 : (A.deeper (envOfC "law" (defScope (top 38)) s.heap.objs.size f cdv)).units + 65 < cLine := by
      have := hr.un
      omega
    refine ⟨_, (pss_cons (ps_set (i := 1) scLaw.nd rfl (Or.inl rfl) (pe_k cSt hr (by decide) (by rfl) (pa_cons (pv 0) pa_nil)))
       (pss_cons (ps_set (i := 2) scLaw.nd rfl (Or.inr rfl) (pe_k cDr hr (by decide) (by rfl) (pa_cons (pv 1) (pa_cons pe_int (pa_cons pe_int (pa_cons pe_int pa_nil))))))
       (pss_cons (ps_set (i := 3) scLaw.nd rfl (Or.inl rfl) (pe_ix (ixT K) (pv 2) pe_int (fun _ _ => rfl)))
       (pss_cons (ps_set (i := 4) scLaw.nd rfl (Or.inr rfl) (pe_k cX hr (by decide) (by rfl) (pa_cons (pv 1) (pa_cons (pv 3) pa_nil))))
       (pss_cons (ps_setLc (i := 5) (own := [("_law_row", 11)]) (g := gName 11) rfl scLaw.nd rfl rfl (sw_true rfl rfl rfl (by decide +kernel)) (pi_list (pe_k cAl hr (by decide) (by rfl) (pa_cons (pv 3) (pa_cons (pv 4) pa_nil)))) (blkOk_by (N := ["_law_script", "_law_stream_here", "_law_net_here", "_law_size", "_law_zero", "_law_kept", "_law_told", "_law_ahead", "_law_j", "_law_behind", "_law_there", "_law_row", "_law_one"]) (sc := (defScope (top 38))) (by decide +kernel)) (fun _ _ _ _ _ => pg_name (i := 11) scLaw.nd rfl (Or.inl rfl)) (fun _ _ _ _ _ => (pts_one (pt_val (pe_k cHo hr (by decide) (by rfl) (pa_cons (pv 2) (pa_cons (pv 11) pa_nil)))))) (fun _ _ _ _ _ => (pv 11)))
       (pss_cons (ps_if (pt_not (pt_val (pe_k cCa hr (by decide) (by rfl) (pa_cons (pv 2) pa_nil)))) (pss_one (ps_ret (pe_cmpR (op_eqD hr.units) (pv 5) (pe_lst pa_nil) (nomark _)))) pss_nil)
       (pss_cons (ps_set (i := 6) scLaw.nd rfl (Or.inr rfl) (pe_k cTi hr (by decide) (by rfl) (pa_cons (pv 2) pa_nil)))
       (pss_cons (ps_set (i := 7) scLaw.nd rfl (Or.inr rfl) (pe_ix (ixT K) (pv 6) (pv 4) (fun _ _ => rfl)))
       (pss_cons (ps_set (i := 9) scLaw.nd rfl (Or.inr rfl) (pe_lc (own := [("_law_j", 8)]) (g := gName 8) (tt := tYes) rfl scLaw.nd (pi_range1 (by rfl) T.bRange (pa_cons (pv 3) pa_nil)) (blkOk_by (N := ["_law_script", "_law_stream_here", "_law_net_here", "_law_size", "_law_zero", "_law_kept", "_law_told", "_law_ahead", "_law_j", "_law_behind", "_law_there", "_law_row", "_law_one"]) (sc := (defScope (top 38))) (by decide +kernel)) (fun _ _ _ _ _ => pg_name (i := 8) scLaw.nd rfl (Or.inl rfl)) (fun _ _ _ _ _ => pts_nil) (fun _ _ _ _ _ => (pe_ix (ixT K) (pe_ix (ixT K) (pv 6) (pv 8) (fun _ _ => rfl)) (pv 4) (fun _ _ => rfl)))))
       (pss_cons (ps_for PassesOwn.never rfl (pi_range1 (by rfl) T.bRange (pa_cons (pv 3) pa_nil)) (pg_name (i := 8) scLaw.nd rfl (Or.inr rfl)) (pss_cons (ps_set (i := 10) scLaw.nd rfl (Or.inr rfl) (pe_lc (own := [("_law_row", 11)]) (g := gName 11) (tt := tYes) rfl scLaw.nd (pi_list (pv 5)) (blkOk_by (N := ["_law_script", "_law_stream_here", "_law_net_here", "_law_size", "_law_zero", "_law_kept", "_law_told", "_law_ahead", "_law_j", "_law_behind", "_law_there", "_law_row", "_law_one"]) (sc := (defScope (top 38))) (by decide +kernel)) (fun _ _ _ _ _ => pg_name (i := 11) scLaw.nd rfl (Or.inl rfl)) (fun _ _ _ _ _ => pts_nil) (fun _ _ _ _ _ => (pe_ix (ixT K) (pv 11) (pv 8) (fun _ _ => rfl))))) (C8.pss_cut (ps_if (PW.pt (pw_and (pt_cmp (pc_notN (pe_ix (ixT K) (pv 7) (pv 8) (fun _ _ => rfl)))) (pw_and1 (pt_val (pe_callB (cr_any rfl) (by rfl) T.bAny (by decide +kernel) (pa_cons (pe_lc (own := [("_law_one", 12)]) (g := gName 12) (tt := tYes) rfl scLaw.nd (pi_list (pv 10)) (blkOk_by (N := ["_law_script", "_law_stream_here", "_law_net_here", "_law_size", "_law_zero", "_law_kept", "_law_told", "_law_ahead", "_law_j", "_law_behind", "_law_there", "_law_row", "_law_one"]) (sc := (defScope (top 38))) (by decide +kernel)) (fun _ _ _ _ _ => pg_name (i := 12) scLaw.nd rfl (Or.inl rfl)) (fun _ _ _ _ _ => pts_nil) (fun _ _ _ _ _ => (pe_cmpR op_gt (pv 12) (pe_ix (ixT K) (pv 7) (pv 8) (fun _ _ => rfl)) (nomark _)))) pa_nil)))))) (pss_one (ps_ret pe_bl)) pss_nil) (C8.pss_cut (ps_if (PW.pt (pw_and (pt_cmp (pc_notN (pe_ix (ixL K) (pv 9) (pv 8) (fun _ _ => rfl)))) (pw_and1 (pt_val (pe_callB (cr_any rfl) (by rfl) T.bAny (by decide +kernel) (pa_cons (pe_lc (own := [("_law_one", 12)]) (g := gName 12) (tt := tYes) rfl scLaw.nd (pi_list (pv 10)) (blkOk_by (N := ["_law_script", "_law_stream_here", "_law_net_here", "_law_size", "_law_zero", "_law_kept", "_law_told", "_law_ahead", "_law_j", "_law_behind", "_law_there", "_law_row", "_law_one"]) (sc := (defScope (top 38))) (by decide +kernel)) (fun _ _ _ _ _ => pg_name (i := 12) scLaw.nd rfl (Or.inl rfl)) (fun _ _ _ _ _ => pts_nil) (fun _ _ _ _ _ => (pe_cmpR op_lt (pv 12) (pe_op op_sub pe_int (pe_ix (ixL K) (pv 9) (pv 8) (fun _ _ => rfl))) (nomark _)))) pa_nil)))))) (pss_one (ps_ret pe_bl)) pss_nil) (pss_one (ps_if (PW.pt (pw_and (pt_cmpR op_notIn_seq pe_non (pe_op op_cat (pe_callTy call_list_of (by rfl) T.bList (by decide +kernel) (pa_cons (pv 7) pa_nil)) (pv 9)) (by rfl)) (pw_and1 (pt_cmpR (op_neD hr.units) (pe_lc (own := [("_law_one", 12)]) (g := gName 12) rfl scLaw.nd (pi_range2 (by rfl) T.bRange (pa_cons (pe_un un_neg pe_int) (pa_cons pe_int pa_nil))) (blkOk_by (N := ["_law_script", "_law_stream_here", "_law_net_here", "_law_size", "_law_zero", "_law_kept", "_law_told", "_law_ahead", "_law_j", "_law_behind", "_law_there", "_law_row", "_law_one"]) (sc := (defScope (top 38))) (by decide +kernel)) (fun _ _ _ _ _ => pg_name (i := 12) scLaw.nd rfl (Or.inl rfl)) (fun _ _ _ _ _ => (pts_one (pt_cmpR (opIn K) (pv 12) (pv 10) (by rfl)))) (fun _ _ _ _ _ => (pv 12))) (pe_listRg rfl (by rfl) T.bList (prg_2 (by rfl) T.bRange (pe_op op_sub pe_int (pe_ix (ixL K) (pv 9) (pv 8) (fun _ _ => rfl))) (pe_op op_add (pe_ix (ixT K) (pv 7) (pv 8) (fun _ _ => rfl)) pe_int))) (nomark _))))) (pss_one (ps_ret pe_bl)) pss_nil))))))
       (C8.pss_cut (ps_if (PW.pt (pw_and (pt_cmpR op_notIn_seq pe_non (pv 7) (by rfl)) (pw_and1 (pt_cmpR (op_notInD hu65) (pe_tupK K (by rfl) T.bTup (pv 7)) (pv 5) (by rfl))))) (pss_one (ps_ret pe_bl)) pss_nil)
       (pss_one (ps_ret (pe_or (pe_cmpR op_in_seq pe_non (pv 9) (by rfl)) (pe_one (pe_cmpR (op_inD hu65) (pe_tupK K (by rfl) T.bTup (pe_lc (own := [("_law_one", 12)]) (g := gName 12) (tt := tYes) rfl scLaw.nd (pi_list (pv 9)) (blkOk_by (N := ["_law_script", "_law_stream_here", "_law_net_here", "_law_size", "_law_zero", "_law_kept", "_law_told", "_law_ahead", "_law_j", "_law_behind", "_law_there", "_law_row", "_law_one"]) (sc := (defScope (top 38))) (by decide +kernel)) (fun _ _ _ _ _ => pg_name (i := 12) scLaw.nd rfl (Or.inl rfl)) (fun _ _ _ _ _ => pts_nil) (fun _ _ _ _ _ => (pe_op op_sub pe_int (pv 12))))) (pv 5) (by rfl))))))))))))))))), ?_⟩
    refine ⟨_, rfl, a, ns, rfl, ha, fun H1 S L s1 hS hL st1 => ?_⟩
    refine ⟨_, rfl, S, L, rfl, st1, fun H2 na n rs sx2 st2 hnet hok => ?_⟩
    have n1 := hok.n1
    have n3 := hok.n3
    obtain ⟨t, hna, hrs⟩ := id hnet
    refine ⟨_, rfl, na, _, _, _, rfl, rfl, SqT.of hna, atI_nat (j := 0) rfl, ?_⟩
    refine ⟨_, rfl, _, rfl, S, L, _, rfl, st2, by omega, by omega, fun H3 zz sx3 st3 z0 z1 => ?_⟩
    obtain ⟨z, rfl⟩ : ∃ z : Nat, zz = (z : Int) := ⟨zz.toNat, by omega⟩
    have hz : z < n := by omega
    have hnet3 := hnet.t (sx3.t st2.nt)
    have hed := hok.ed
    -- the heights that keep the net
    refine ⟨_, rfl, _, rfl, n, z, rfl, n3, fun H4 R s4 ⟨as, hR, hrows⟩ => ⟨R, rfl, ⟨_, SqL.of hR⟩, fun C hC => ?_⟩⟩
    have hlr : (allRows z n).length ≤ 6859 := by
      have h1 := len_all z n
      have h2 : 19 ^ n ≤ 19 ^ 3 := Nat.pow_le_pow_right (by omega) n3
      omega
    have las : as.length = (allRows z n).length := Paired.length hrows
    have hnet4 := hnet3.same s4
    refine lc_it (walk_list (xs := as.map V.ref)) (fun i H' => Same H4 H' ∧ ∃ ks, H' C = some (.lst (ks.map V.ref)) ∧ RowsP H' ks (((allRows z n).take i).filter (holdB rs))) ⟨same_new hC, [], upd_same, .nil⟩ (fun i H' _ p => SqL.of (p.1 _ _ hR)) ?_ ?_
    · rintro i x H5 H5' hi ⟨s5, ks, hC5, hks⟩ ⟨rfl, hx⟩
      rw [List.getElem?_map] at hx
      obtain ⟨pr, hpr, rfl⟩ := Option.map_eq_some_iff.mp hx
      obtain ⟨row, hrow, hpr2⟩ := paired_get hrows hpr
      have hlen : row.length = n := (mem_all.mp (List.mem_of_getElem? hrow)).1
      have lks : ks.length ≤ 6859 := by
        have h1 := Paired.length hks
        have h2 := List.length_filter_le (holdB rs) ((allRows z n).take i)
        rw [List.length_take] at h2
        omega
      have eT : ((allRows z n).take (i + 1)).filter (holdB rs) = ((allRows z n).take i).filter (holdB rs) ++ if holdB rs row = true then [row] else [] := by
        rw [List.take_add_one, hrow, List.filter_append]
        simp [List.filter_cons]
      rw [eT]
      generalize ((allRows z n).take i).filter (holdB rs) = acc at hks
      refine ⟨rfl, _, rfl, _, rfl, na, pr, n, rs, row, rfl, hnet4.same s5, hok, s5 _ _ hpr2, hlen, _, rfl, ite2 (fun y => ?_) fun y => ?_⟩
      · rw [if_pos y]
        refine ⟨_, rfl, _, hC5, by rw [List.length_map]; exact Nat.lt_of_le_of_lt (by omega : _ ≤ 10000) (by decide), same_mut s5 hC, ks ++ [pr], by rw [upd_same, List.map_append]; rfl, ?_⟩
        have tC : TSame H5' (upd H5' C (.lst (ks.map V.ref ++ [.ref pr]))) := tsame_put fun xs q => by
          rw [hC5] at q
          cases q
        exact paired_snoc (hks.t tC) (tC _ _ (s5 _ _ hpr2))
      · rw [if_neg y, List.append_nil]
        exact ⟨s5, ks, hC5, hks⟩
    rintro H5 ⟨s5, ks, hC5, hks⟩
    rw [List.length_map, las, List.take_length] at hks
    have hks : RowsP H5 ks (kept n z rs) := hks
    have hnet5 := hnet4.same s5
    -- if not can_keep(..)
    refine ⟨_, rfl, na, n, rs, rfl, hnet5, hok, fun H6 s6 => ⟨_, rfl, ?_⟩⟩
    have hC6 := s6 _ _ hC5
    have hks6 := hks.t (Same.t s6)
    cases hno : hasRound n (edges rs) with
    | true =>
      rw [kept_none hno] at hks6
      cases hks6
      refine iteT ⟨_, rfl, by show 0 ≤ sizeLine; decide, fun p hp => ⟨.list [], .list [], .lst (SqL.of (same_new hp _ _ hC6)) .nil, .lst (SqL.of upd_same) .nil, shaped_ints [], shaped_ints [], ?_⟩⟩
      exact q _
    | false =>
    refine iteF ?_
    have hnet6 := hnet5.same s6
    refine ⟨_, rfl, na, n, rs, rfl, hnet6, hok, hno, fun H7 tt as7 s7 htt hr7 => ?_⟩
    obtain ⟨pz, hpz1, hpz2⟩ := told_at (f := fun i => .tup (rowV n (edges rs) i)) hr7 hz
    refine ⟨_, rfl, _, rfl, tt, _, _, _, rfl, rfl, SqT.of htt, ref_at hpz1, ?_⟩
    have l7 : as7.length = n := by
      have := Paired.length hr7
      rw [List.length_range] at this
      exact this
    -- the column
    refine ⟨_, rfl, n, rfl, by omega, by omega, fun B hB => ?_⟩
    refine lc_it (walk_rangeN (n := n)) (fun i H' => Same H7 H' ∧ H' B = some (.lst ((List.range i).map fun j => oV (bnd n (edges rs) (j : Nat) z)))) ⟨same_new hB, upd_same⟩ (fun _ _ _ _ => True.intro) ?_ ?_
    · rintro i x H8 H8' hi ⟨s8, hB8⟩ ⟨rfl, rfl⟩
      obtain ⟨pi, hpi1, hpi2⟩ := told_at (f := fun i => .tup (rowV n (edges rs) i)) hr7 hi
      refine ⟨rfl, yes_in ⟨_, rfl, _, rfl, tt, _, _, _, rfl, rfl, SqT.of (s8 _ _ htt), ref_at hpi1, _, rfl, pi, _, _, _, rfl, rfl, SqT.of (s8 _ _ hpi2), at_rng hz, _, hB8, ?_, same_mut s8 hB, ?_⟩⟩
      · rw [List.length_map, List.length_range]
        exact small1000 (by omega)
      · rw [upd_same, List.range_succ, List.map_append]
        rfl
    rintro H8 ⟨s8, hB8⟩
    have hC8 := s8 _ _ (s7 _ _ hC6)
    have hks8 := (hks6.t (Same.t s7)).t (Same.t s8)
    have hz8 := s8 _ _ hpz2
    have lks : ks.length ≤ 6859 := by
      have h1 := Paired.length hks8
      have h2 := List.length_filter_le (holdB rs) (allRows z n)
      have h3 : ks.length = ((allRows z n).filter (holdB rs)).length := h1
      omega
    have hz0 : (0 : Int) ≤ (z : Int) := by omega
    have hz1 : ((z : Nat) : Int) < (n : Int) := by omega
    refine ⟨_, rfl, n, rfl, by omega, by omega, ?_⟩
    rw [Int.toNat_natCast]
    refine for_it (walk_rangeN (n := n)) (fun j σ H' => (∃ v8 v10, σ = [some (.ref a), some (.ref S), some (.ref na), some (.int n), some (.int z), some (.ref C), some (.ref tt), some (.ref pz), v8, some (.ref B), v10, none, none]) ∧ Same H8 H')
      ⟨⟨_, _, rfl⟩, Same.refl _⟩ (fun _ _ _ _ _ => True.intro) ?_ ?_
    · rintro j x σ H9 H9' hj ⟨⟨v8, v10, rfl⟩, s9⟩ ⟨rfl, rfl⟩
      have j0 : (0 : Int) ≤ (j : Int) := by omega
      have j1 : ((j : Nat) : Int) < (n : Int) := by omega
      have hC9 := s9 _ _ hC8
      have hks9 := hks8.t (Same.t s9)
      have lkp : ks.length = (kept n z rs).length := Paired.length hks9
      have lth : (thereM n z rs j).length = ks.length := by
        unfold thereM
        rw [List.length_map, lkp]
      show tSeq _ _ _ [some (.ref a), some (.ref S), some (.ref na), some (.int n), some (.int z), some (.ref C), some (.ref tt), some (.ref pz), some (.int (j : Nat)), some (.ref B), v10, none, none] H9'
      refine lc_stmt (xs := ks.map V.ref) (ys := (thereM n z rs j).map V.int) rfl hC9 (by rw [List.length_map, List.length_map, lth]) (by rw [List.length_map]; omega) (fun i x y H' N hx hy s1 nn => ?_) fun H10 Th s10 hTh => ?_
      · rw [List.getElem?_map] at hx hy
        obtain ⟨p, hp, rfl⟩ := Option.map_eq_some_iff.mp hx
        obtain ⟨u, hu, rfl⟩ := Option.map_eq_some_iff.mp hy
        obtain ⟨row, hrow, hpr⟩ := paired_get hks9 hp
        unfold thereM at hu
        rw [List.getElem?_map, hrow] at hu
        cases hu
        have hlen := kept_len (List.mem_of_getElem? hrow)
        exact ⟨_, rfl, _, rfl, p, _, _, _, rfl, rfl, SqT.of (s1 _ _ hpr), rowAt j0 (by omega), nn H' (Same.refl _)⟩
      have s810 := Same.trans s9 s10
      have hz10 := s810 _ _ hz8
      have hB10 := s810 _ _ hB8
      have hC10 := s810 _ _ hC8
      have lth2 : ((thereM n z rs j).map V.int).length ≤ 100000 := by
        rw [List.length_map, lth]
        omega
      have inT : ∀ x, x ∈ thereM n z rs j → ∃ row ∈ kept n z rs, at_ row j = x := fun x hx => by
        obtain ⟨row, hr, e⟩ := List.mem_map.mp hx
        exact ⟨row, hr, e⟩
      -- no difference beyond the bound
      refine ⟨fun σ H' => σ = [some (.ref a), some (.ref S), some (.ref na), some (.int n), some (.int z), some (.ref C), some (.ref tt), some (.ref pz), some (.int (j : Nat)), some (.ref B), some (.ref Th), none, none] ∧ Same H10 H', ?_, ?_⟩
      · refine ⟨_, rfl, _, rfl, pz, _, _, _, rfl, rfl, SqT.of hz10, at_rng hj, _, rfl, ?_⟩
        rw [oV_none]
        cases hb : bnd n (edges rs) (z : Nat) (j : Nat) with
        | none => exact iteF (iteF ⟨rfl, Same.refl _⟩)
        | some b =>
          have hat : atI (rowV n (edges rs) z) (j : Int) = some (.int b) := by
            unfold rowV
            rw [at_rng hj, hb]
            rfl
          refine iteT (any_read (xs := (thereM n z rs j).map V.int) (bs := (thereM n z rs j).map fun t => decide (b < t)) rfl hTh (by rw [List.length_map, List.length_map]) lth2 (fun i x y H' N hx hy s1 nn => ?_) fun H11 s11 => ?_)
          · rw [List.getElem?_map] at hx hy
            obtain ⟨u, hu, rfl⟩ := Option.map_eq_some_iff.mp hx
            rw [hu] at hy
            cases hy
            exact ⟨_, rfl, _, rfl, _, rfl, pz, _, _, _, rfl, rfl, SqT.of (s1 _ _ hz10), hat, _, _, rfl, rfl, nn H' (Same.refl _)⟩
          · have e : (((thereM n z rs j).map fun t => decide (b < t)).any id) = false := by
              rw [List.any_map]
              refine List.any_eq_false.mpr fun x hx => ?_
              obtain ⟨row, hr, rfl⟩ := inT x hx
              have := kept_le hz0 hz1 hr hb
              show ¬ decide (b < at_ row j) = true
              rw [decide_eq_true_eq]
              omega
            rw [e]
            exact iteF ⟨rfl, s11⟩
      rintro σ H11 ⟨rfl, s11⟩
      have s811 := Same.trans s810 s11
      have hTh11 := s11 _ _ hTh
      have hB11 := s11 _ _ hB10
      refine ⟨fun σ H' => σ = [some (.ref a), some (.ref S), some (.ref na), some (.int n), some (.int z), some (.ref C), some (.ref tt), some (.ref pz), some (.int (j : Nat)), some (.ref B), some (.ref Th), none, none] ∧ Same H11 H', ?_, ?_⟩
      · refine ⟨_, rfl, _, rfl, B, _, _, _, rfl, rfl, SqL.of hB11, at_rng hj, _, rfl, ?_⟩
        rw [oV_none]
        cases hb : bnd n (edges rs) (j : Nat) (z : Nat) with
        | none => exact iteF (iteF ⟨rfl, Same.refl _⟩)
        | some b =>
          have hat : atI ((List.range n).map fun j => oV (bnd n (edges rs) (j : Nat) z)) (j : Int) = some (.int b) := by
            rw [at_rng hj, hb]
            rfl
          refine iteT (any_read (xs := (thereM n z rs j).map V.int) (bs := (thereM n z rs j).map fun t => decide (t < 0 - b)) rfl hTh11 (by rw [List.length_map, List.length_map]) lth2 (fun i x y H' N hx hy s1 nn => ?_) fun H12 s12 => ?_)
          · rw [List.getElem?_map] at hx hy
            obtain ⟨u, hu, rfl⟩ := Option.map_eq_some_iff.mp hx
            rw [hu] at hy
            cases hy
            exact ⟨_, rfl, _, rfl, _, rfl, B, _, _, _, rfl, rfl, SqL.of (s1 _ _ hB11), hat, _, _, rfl, rfl, _, _, rfl, rfl, nn H' (Same.refl _)⟩
          · have e : (((thereM n z rs j).map fun t => decide (t < 0 - b)).any id) = false := by
              rw [List.any_map]
              refine List.any_eq_false.mpr fun x hx => ?_
              obtain ⟨row, hr, rfl⟩ := inT x hx
              have := kept_ge hz0 hz1 hr hb
              show ¬ decide (at_ row j < 0 - b) = true
              rw [decide_eq_true_eq]
              omega
            rw [e]
            exact iteF ⟨rfl, s12⟩
      rintro σ H12 ⟨rfl, s12⟩
      have s812 := Same.trans s811 s12
      have hTh12 := s12 _ _ hTh11
      have hB12 := s812 _ _ hB8
      have hz12 := s812 _ _ hz8
      -- each integer between
      have lrow : (rowV n (edges rs) z).length = n := by
        unfold rowV
        rw [List.length_map, List.length_range]
      refine ⟨_, rfl, pz, _, rfl, .inr (SqT.of hz12), fun l hl => ⟨_, rfl, l, B, _, _, rfl, rfl, upd_same, same_new hl _ _ hB12, ?_, fun p hp => ⟨p, _, rfl, .inl (SqL.of upd_same), rfl, ?_, _, rfl, ite2 (fun y => ?_) fun y => ?_⟩⟩⟩
      · rw [lrow, List.length_map, List.length_range]
        exact Nat.le_of_lt (small1000 (by omega))
      · rw [List.all_append, Bool.and_eq_true]
        exact ⟨flat_opts _ _, flat_opts _ _⟩
      · have y' : (!inV .non (rowV n (edges rs) z ++ (List.range n).map fun j => oV (bnd n (edges rs) (j : Nat) z))) = true := y
        have y2 : inV .non (rowV n (edges rs) z ++ (List.range n).map fun j => oV (bnd n (edges rs) (j : Nat) z)) = false := by simpa using y'
        rw [inV_app, Bool.or_eq_false_iff] at y2
        have ka := known_of (f := fun j => bnd n (edges rs) (z : Nat) (j : Nat)) y2.1
        have kb := known_of (f := fun j => bnd n (edges rs) (j : Nat) (z : Nat)) y2.2
        have kA : ∀ i : Int, 0 ≤ i → i < n → (bnd n (edges rs) z i).isSome = true := fun i i0 i1 => by
          have := ka i.toNat (by omega)
          rw [show ((i.toNat : Nat) : Int) = i by omega] at this
          exact this
        have kB : ∀ i : Int, 0 ≤ i → i < n → (bnd n (edges rs) i z).isSome = true := fun i i0 i1 => by
          have := kb i.toNat (by omega)
          rw [show ((i.toNat : Nat) : Int) = i by omega] at this
          exact this
        obtain ⟨av, hA⟩ := Option.isSome_iff_exists.mp (kA j j0 j1)
        obtain ⟨bv, hBv⟩ := Option.isSome_iff_exists.mp (kB j j0 j1)
        have hrg := there_rg n3 hno hed hz0 hz1 j0 j1 kA kB hA hBv
        have sA := bnd_size n3 hed hA
        have sB := bnd_size n3 hed hBv
        have atA : atI (rowV n (edges rs) z) (j : Int) = some (.int av) := by
          unfold rowV
          rw [at_rng hj, hA]
          rfl
        have atB : atI ((List.range n).map fun j => oV (bnd n (edges rs) (j : Nat) z)) (j : Int) = some (.int bv) := by
          rw [at_rng hj, hBv]
          rfl
        have s13 := Same.trans (same_new (o := .lst (rowV n (edges rs) z)) hl) (same_new (o := .lst (rowV n (edges rs) z ++ (List.range n).map fun j => oV (bnd n (edges rs) (j : Nat) z))) hp)
        generalize upd (upd H12 l (.lst (rowV n (edges rs) z))) p (.lst (rowV n (edges rs) z ++ (List.range n).map fun j => oV (bnd n (edges rs) (j : Nat) z))) = H13 at s13
        have hTh13 := s13 _ _ hTh12
        refine ⟨_, rfl, -9, 10, rfl, by decide, fun D hD => ?_⟩
        refine lc_it (walk_range (lo := -9) (n := 19)) (fun i H' => Same H13 H' ∧ H' D = some (.lst ((((List.range i).map fun (i : Nat) => -9 + (i : Int)).filter fun t => decide (t ∈ thereM n z rs j)).map V.int))) ⟨same_new hD, upd_same⟩ (fun _ _ _ _ => True.intro) ?_ ?_
        · rintro i x H14 H14' hi ⟨s14, hD14⟩ ⟨rfl, rfl⟩
          have eT : (((List.range (i + 1)).map fun (i : Nat) => -9 + (i : Int)).filter fun t => decide (t ∈ thereM n z rs j)) = (((List.range i).map fun (i : Nat) => -9 + (i : Int)).filter fun t => decide (t ∈ thereM n z rs j)) ++ if -9 + (i : Int) ∈ thereM n z rs j then [-9 + (i : Int)] else [] := by
            rw [List.range_succ, List.map_append, List.filter_append]
            simp [List.filter_cons]
          rw [eT]
          have lf := List.length_filter_le (fun t => decide (t ∈ thereM n z rs j)) ((List.range i).map fun (i : Nat) => -9 + (i : Int))
          rw [List.length_map, List.length_range] at lf
          generalize (((List.range i).map fun (i : Nat) => -9 + (i : Int)).filter fun t => decide (t ∈ thereM n z rs j)) = acc at hD14 lf
          refine ⟨rfl, _, rfl, _, rfl, Th, _, rfl, .inl (SqL.of (s14 _ _ hTh13)), rfl, flat_ints _, _, rfl, ite2 (fun w1 => ?_) fun w1 => ?_⟩
          · have w2 : inV (.int (-9 + (i : Int))) ((thereM n z rs j).map V.int) = true := w1
            rw [inV_int] at w2
            rw [if_pos (of_decide_eq_true w2)]
            refine ⟨_, rfl, _, hD14, by rw [List.length_map]; exact small1000 (by omega), same_mut s14 hD, ?_⟩
            rw [upd_same, List.map_append]
            rfl
          · have w2 : ¬ inV (.int (-9 + (i : Int))) ((thereM n z rs j).map V.int) = true := w1
            rw [inV_int, decide_eq_true_eq] at w2
            rw [if_neg w2, List.append_nil]
            exact ⟨s14, hD14⟩
        · rintro H14 ⟨s14, hD14⟩
          have hD14 : H14 D = some (.lst ((rg19.filter fun t => decide (t ∈ thereM n z rs j)).map V.int)) := hD14
          rw [hrg] at hD14
          have s1214 := Same.trans s13 s14
          refine ⟨_, rfl, _, rfl, B, _, _, _, rfl, rfl, SqL.of (s1214 _ _ hB12), atB, _, _, rfl, rfl, _, rfl, _, rfl, pz, _, _, _, rfl, rfl, SqT.of (s1214 _ _ hz12), atA, _, _, rfl, rfl, 0 - bv, av + 1, rfl, rfl, ⟨by omega, by omega, by omega, by omega, by omega⟩, fun R2 hR2 => ?_⟩
          have hD15 := same_new (o := .lst (rgV (0 - bv) (av + 1))) hR2 _ _ hD14
          have hR15 : upd H14 R2 (.lst (rgV (0 - bv) (av + 1))) R2 = some (.lst ((rgI (0 - bv) (av + 1)).map V.int)) := by
            rw [upd_same, rgV_eq]
          refine ⟨_, _, .lst (SqL.of hD15) (dp_ints _), .lst (SqL.of hR15) (dp_ints _), shaped_ints _, shaped_ints _, _, rfl, ?_⟩
          rw [SeqAt.eqv_refl (.list (dI (rgI (0 - bv) (av + 1)))) (SeqAt.canLay_of_shaped (shaped_ints _))]
          exact iteF ⟨⟨_, _, rfl⟩, Same.trans s812 (Same.trans s1214 (same_new hR2))⟩
      · exact iteF ⟨⟨_, _, rfl⟩, Same.trans s812 (Same.trans (same_new hl) (same_new hp))⟩
    · rintro σ H9 ⟨⟨v8, v10, rfl⟩, s9⟩
      have hz9 := s9 _ _ hz8
      have hB9 := s9 _ _ hB8
      have hC9 := s9 _ _ hC8
      have hks9 := hks8.t (Same.t s9)
      refine ⟨fun σ H' => (∃ v8 v10, σ = [some (.ref a), some (.ref S), some (.ref na), some (.int n), some (.int z), some (.ref C), some (.ref tt), some (.ref pz), v8, some (.ref B), v10, none, none]) ∧ Same H9 H', ?_, ?_⟩
      · refine ⟨_, rfl, pz, _, rfl, .inr (SqT.of hz9), rfl, flat_opts _ _, _, rfl, ite2 (fun y => ?_) fun y => iteF ⟨⟨_, _, rfl⟩, Same.refl _⟩⟩
        have y' : (!inV .non (rowV n (edges rs) z)) = true := y
        have y2 : inV .non (rowV n (edges rs) z) = false := by simpa using y'
        have kn := known_of (f := fun j => bnd n (edges rs) (z : Nat) (j : Nat)) y2
        have er : rowV n (edges rs) z = (mkRow n fun j => (bnd n (edges rs) z j).getD 0).map V.int := known_row kn
        have hin := ahead_kept n3 hno hed hz0 hz1 (fun i i0 i1 => by
          have := kn i.toNat (by omega)
          rw [show ((i.toNat : Nat) : Int) = i by omega] at this
          exact this)
        rw [er] at hz9
        refine ⟨_, rfl, .inr ⟨pz, _, rfl, SqT.of hz9, _, rfl, dR _, _, .tup (SqT.of hz9) (dp_ints _), .lst (SqL.of hC9) (dp_rows hks9), shaped_row _, shaped_rows _, _, rfl, ?_⟩⟩
        rw [any_row hin]
        exact iteF ⟨⟨_, _, rfl⟩, Same.refl _⟩
      rintro σ H10 ⟨⟨v8, v10, rfl⟩, s10⟩
      have hB10 := s10 _ _ hB9
      refine ⟨_, rfl, B, _, rfl, .inl (SqL.of hB10), rfl, flat_opts _ _, _, rfl, ite2 (fun y => q _) fun y => ?_⟩
      have y' : ¬ inV .non ((List.range n).map fun j => oV (bnd n (edges rs) (j : Nat) z)) = true := y
      have kn := known_of (f := fun j => bnd n (edges rs) (j : Nat) (z : Nat)) (by simpa using y')
      have er := known_row kn
      have hin := behind_kept n3 hno hed hz0 hz1 (fun i i0 i1 => by
        have := kn i.toNat (by omega)
        rw [show ((i.toNat : Nat) : Int) = i by omega] at this
        exact this)
      rw [er] at hB10
      have eL : (mkRow n fun j => 0 - (bnd n (edges rs) j z).getD 0) = ((List.range n).map fun (j : Nat) => (bnd n (edges rs) (j : Nat) z).getD 0).map fun x => 0 - x := by
        unfold mkRow
        rw [List.map_map]
        rfl
      refine in_read (ys := (mkRow n fun j => 0 - (bnd n (edges rs) j z).getD 0).map V.int) rfl hB10 (by rw [eL]; simp only [List.length_map]) (by simp only [List.length_map, List.length_range]; omega) (fun i x y H' N hx hy s1 nn => ?_) fun H11 p s11 hp => ?_
      · rw [eL, List.getElem?_map, List.getElem?_map] at hy
        rw [List.getElem?_map] at hx
        obtain ⟨u, hu, rfl⟩ := Option.map_eq_some_iff.mp hx
        rw [hu] at hy
        cases hy
        exact ⟨_, rfl, _, _, rfl, rfl, nn H' (Same.refl _)⟩
      · refine ⟨_, rfl, dR _, _, .tup (SqT.of hp) (dp_ints _), .lst (SqL.of (Same.trans s10 s11 _ _ hC9)) (dp_rows (hks9.t (Same.t (Same.trans s10 s11)))), shaped_row _, shaped_rows _, ?_⟩
        rw [any_row hin]
        exact q _
end
end Ab

/-! What the module's names hold; the last theorem. -/
namespace Ab
open PySem PySem.Spec PyProof.Rows L2
theorem all_mk {l : PySem.W.OpenLaw} {w : World} {K : PySem.W.Frag} {h : Heap} {mg : Str → Option Value} {fa : Addr} (X : K.In h) (G : h.Ns mainGlobals mg) (hfa : mg "law" = some (.ref fa))
    {f0 : Addr} {od0 an0 : Option Addr} {sl0 : Array (Option Value)} {oc0 kV0 dc0 pm0 cd0 ct0 : Value}
    (a0 : PySem.W.nsIn K mainGlobals "is_between" = some (some (.ref f0))) (l0 : K.lookup f0 = some ⟨oc0, od0, .func (PySem.W.fnOf "is_between" "is_between" (defArgs (top 8)) (defBody (top 8)) (defScope (top 8)) .none kV0 dc0 pm0 an0 cd0 ct0), sl0⟩) (c0 : PySem.W.codeIn K cd0 "is_between" = true) (k0 : PySem.W.keepIn K (.ref f0) = true)
    {f1 : Addr} {od1 an1 : Option Addr} {sl1 : Array (Option Value)} {oc1 kV1 dc1 pm1 cd1 ct1 : Value}
    (a1 : PySem.W.nsIn K mainGlobals "is_side" = some (some (.ref f1))) (l1 : K.lookup f1 = some ⟨oc1, od1, .func (PySem.W.fnOf "is_side" "is_side" (defArgs (top 9)) (defBody (top 9)) (defScope (top 9)) .none kV1 dc1 pm1 an1 cd1 ct1), sl1⟩) (c1 : PySem.W.codeIn K cd1 "is_side" = true) (k1 : PySem.W.keepIn K (.ref f1) = true)
    {f2 : Addr} {od2 an2 : Option Addr} {sl2 : Array (Option Value)} {oc2 kV2 dc2 pm2 cd2 ct2 : Value}
    (a2 : PySem.W.nsIn K mainGlobals "is_rule" = some (some (.ref f2))) (l2 : K.lookup f2 = some ⟨oc2, od2, .func (PySem.W.fnOf "is_rule" "is_rule" (defArgs (top 10)) (defBody (top 10)) (defScope (top 10)) .none kV2 dc2 pm2 an2 cd2 ct2), sl2⟩) (c2 : PySem.W.codeIn K cd2 "is_rule" = true) (k2 : PySem.W.keepIn K (.ref f2) = true)
    {f3 : Addr} {od3 an3 : Option Addr} {sl3 : Array (Option Value)} {oc3 kV3 dc3 pm3 cd3 ct3 : Value}
    (a3 : PySem.W.nsIn K mainGlobals "is_net" = some (some (.ref f3))) (l3 : K.lookup f3 = some ⟨oc3, od3, .func (PySem.W.fnOf "is_net" "is_net" (defArgs (top 11)) (defBody (top 11)) (defScope (top 11)) .none kV3 dc3 pm3 an3 cd3 ct3), sl3⟩) (c3 : PySem.W.codeIn K cd3 "is_net" = true) (k3 : PySem.W.keepIn K (.ref f3) = true)
    {f4 : Addr} {od4 an4 : Option Addr} {sl4 : Array (Option Value)} {oc4 kV4 dc4 pm4 cd4 ct4 : Value}
    (a4 : PySem.W.nsIn K mainGlobals "edges_of" = some (some (.ref f4))) (l4 : K.lookup f4 = some ⟨oc4, od4, .func (PySem.W.fnOf "edges_of" "edges_of" (defArgs (top 12)) (defBody (top 12)) (defScope (top 12)) .none kV4 dc4 pm4 an4 cd4 ct4), sl4⟩) (c4 : PySem.W.codeIn K cd4 "edges_of" = true) (k4 : PySem.W.keepIn K (.ref f4) = true)
    {f5 : Addr} {od5 an5 : Option Addr} {sl5 : Array (Option Value)} {oc5 kV5 dc5 pm5 cd5 ct5 : Value}
    (a5 : PySem.W.nsIn K mainGlobals "check_net" = some (some (.ref f5))) (l5 : K.lookup f5 = some ⟨oc5, od5, .func (PySem.W.fnOf "check_net" "check_net" (defArgs (top 14)) (defBody (top 14)) (defScope (top 14)) .none kV5 dc5 pm5 an5 cd5 ct5), sl5⟩) (c5 : PySem.W.codeIn K cd5 "check_net" = true) (k5 : PySem.W.keepIn K (.ref f5) = true)
    {f6 : Addr} {od6 an6 : Option Addr} {sl6 : Array (Option Value)} {oc6 kV6 dc6 pm6 cd6 ct6 : Value}
    (a6 : PySem.W.nsIn K mainGlobals "longer_walks" = some (some (.ref f6))) (l6 : K.lookup f6 = some ⟨oc6, od6, .func (PySem.W.fnOf "longer_walks" "longer_walks" (defArgs (top 15)) (defBody (top 15)) (defScope (top 15)) .none kV6 dc6 pm6 an6 cd6 ct6), sl6⟩) (c6 : PySem.W.codeIn K cd6 "longer_walks" = true) (k6 : PySem.W.keepIn K (.ref f6) = true)
    {f7 : Addr} {od7 an7 : Option Addr} {sl7 : Array (Option Value)} {oc7 kV7 dc7 pm7 cd7 ct7 : Value}
    (a7 : PySem.W.nsIn K mainGlobals "first_round" = some (some (.ref f7))) (l7 : K.lookup f7 = some ⟨oc7, od7, .func (PySem.W.fnOf "first_round" "first_round" (defArgs (top 16)) (defBody (top 16)) (defScope (top 16)) .none kV7 dc7 pm7 an7 cd7 ct7), sl7⟩) (c7 : PySem.W.codeIn K cd7 "first_round" = true) (k7 : PySem.W.keepIn K (.ref f7) = true)
    {f8 : Addr} {od8 an8 : Option Addr} {sl8 : Array (Option Value)} {oc8 kV8 dc8 pm8 cd8 ct8 : Value}
    (a8 : PySem.W.nsIn K mainGlobals "shortest_walks" = some (some (.ref f8))) (l8 : K.lookup f8 = some ⟨oc8, od8, .func (PySem.W.fnOf "shortest_walks" "shortest_walks" (defArgs (top 17)) (defBody (top 17)) (defScope (top 17)) .none kV8 dc8 pm8 an8 cd8 ct8), sl8⟩) (c8 : PySem.W.codeIn K cd8 "shortest_walks" = true) (k8 : PySem.W.keepIn K (.ref f8) = true)
    {f9 : Addr} {od9 an9 : Option Addr} {sl9 : Array (Option Value)} {oc9 kV9 dc9 pm9 cd9 ct9 : Value}
    (a9 : PySem.W.nsIn K mainGlobals "with_walk" = some (some (.ref f9))) (l9 : K.lookup f9 = some ⟨oc9, od9, .func (PySem.W.fnOf "with_walk" "with_walk" (defArgs (top 18)) (defBody (top 18)) (defScope (top 18)) .none kV9 dc9 pm9 an9 cd9 ct9), sl9⟩) (c9 : PySem.W.codeIn K cd9 "with_walk" = true) (k9 : PySem.W.keepIn K (.ref f9) = true)
    {f10 : Addr} {od10 an10 : Option Addr} {sl10 : Array (Option Value)} {oc10 kV10 dc10 pm10 cd10 ct10 : Value}
    (a10 : PySem.W.nsIn K mainGlobals "bounds_of" = some (some (.ref f10))) (l10 : K.lookup f10 = some ⟨oc10, od10, .func (PySem.W.fnOf "bounds_of" "bounds_of" (defArgs (top 19)) (defBody (top 19)) (defScope (top 19)) .none kV10 dc10 pm10 an10 cd10 ct10), sl10⟩) (c10 : PySem.W.codeIn K cd10 "bounds_of" = true) (k10 : PySem.W.keepIn K (.ref f10) = true)
    {f11 : Addr} {od11 an11 : Option Addr} {sl11 : Array (Option Value)} {oc11 kV11 dc11 pm11 cd11 ct11 : Value}
    (a11 : PySem.W.nsIn K mainGlobals "can_keep" = some (some (.ref f11))) (l11 : K.lookup f11 = some ⟨oc11, od11, .func (PySem.W.fnOf "can_keep" "can_keep" (defArgs (top 20)) (defBody (top 20)) (defScope (top 20)) .none kV11 dc11 pm11 an11 cd11 ct11), sl11⟩) (c11 : PySem.W.codeIn K cd11 "can_keep" = true) (k11 : PySem.W.keepIn K (.ref f11) = true)
    {f12 : Addr} {od12 an12 : Option Addr} {sl12 : Array (Option Value)} {oc12 kV12 dc12 pm12 cd12 ct12 : Value}
    (a12 : PySem.W.nsIn K mainGlobals "check_kept" = some (some (.ref f12))) (l12 : K.lookup f12 = some ⟨oc12, od12, .func (PySem.W.fnOf "check_kept" "check_kept" (defArgs (top 21)) (defBody (top 21)) (defScope (top 21)) .none kV12 dc12 pm12 an12 cd12 ct12), sl12⟩) (c12 : PySem.W.codeIn K cd12 "check_kept" = true) (k12 : PySem.W.keepIn K (.ref f12) = true)
    {f13 : Addr} {od13 an13 : Option Addr} {sl13 : Array (Option Value)} {oc13 kV13 dc13 pm13 cd13 ct13 : Value}
    (a13 : PySem.W.nsIn K mainGlobals "tight" = some (some (.ref f13))) (l13 : K.lookup f13 = some ⟨oc13, od13, .func (PySem.W.fnOf "tight" "tight" (defArgs (top 22)) (defBody (top 22)) (defScope (top 22)) .none kV13 dc13 pm13 an13 cd13 ct13), sl13⟩) (c13 : PySem.W.codeIn K cd13 "tight" = true) (k13 : PySem.W.keepIn K (.ref f13) = true)
    {f14 : Addr} {od14 an14 : Option Addr} {sl14 : Array (Option Value)} {oc14 kV14 dc14 pm14 cd14 ct14 : Value}
    (a14 : PySem.W.nsIn K mainGlobals "_law_stream" = some (some (.ref f14))) (l14 : K.lookup f14 = some ⟨oc14, od14, .func (PySem.W.fnOf "_law_stream" "_law_stream" (defArgs (top 24)) (defBody (top 24)) (defScope (top 24)) .none kV14 dc14 pm14 an14 cd14 ct14), sl14⟩) (c14 : PySem.W.codeIn K cd14 "_law_stream" = true) (k14 : PySem.W.keepIn K (.ref f14) = true)
    {f15 : Addr} {od15 an15 : Option Addr} {sl15 : Array (Option Value)} {oc15 kV15 dc15 pm15 cd15 ct15 : Value}
    (a15 : PySem.W.nsIn K mainGlobals "_law_next" = some (some (.ref f15))) (l15 : K.lookup f15 = some ⟨oc15, od15, .func (PySem.W.fnOf "_law_next" "_law_next" (defArgs (top 25)) (defBody (top 25)) (defScope (top 25)) .none kV15 dc15 pm15 an15 cd15 ct15), sl15⟩) (c15 : PySem.W.codeIn K cd15 "_law_next" = true) (k15 : PySem.W.keepIn K (.ref f15) = true)
    {f16 : Addr} {od16 an16 : Option Addr} {sl16 : Array (Option Value)} {oc16 kV16 dc16 pm16 cd16 ct16 : Value}
    (a16 : PySem.W.nsIn K mainGlobals "_law_net" = some (some (.ref f16))) (l16 : K.lookup f16 = some ⟨oc16, od16, .func (PySem.W.fnOf "_law_net" "_law_net" (defArgs (top 28)) (defBody (top 28)) (defScope (top 28)) .none kV16 dc16 pm16 an16 cd16 ct16), sl16⟩) (c16 : PySem.W.codeIn K cd16 "_law_net" = true) (k16 : PySem.W.keepIn K (.ref f16) = true)
    {f17 : Addr} {od17 an17 : Option Addr} {sl17 : Array (Option Value)} {oc17 kV17 dc17 pm17 cd17 ct17 : Value}
    (a17 : PySem.W.nsIn K mainGlobals "_law_hold" = some (some (.ref f17))) (l17 : K.lookup f17 = some ⟨oc17, od17, .func (PySem.W.fnOf "_law_hold" "_law_hold" (defArgs (top 33)) (defBody (top 33)) (defScope (top 33)) .none kV17 dc17 pm17 an17 cd17 ct17), sl17⟩) (c17 : PySem.W.codeIn K cd17 "_law_hold" = true) (k17 : PySem.W.keepIn K (.ref f17) = true)
    {f18 : Addr} {od18 an18 : Option Addr} {sl18 : Array (Option Value)} {oc18 kV18 dc18 pm18 cd18 ct18 : Value}
    (a18 : PySem.W.nsIn K mainGlobals "_law_all" = some (some (.ref f18))) (l18 : K.lookup f18 = some ⟨oc18, od18, .func (PySem.W.fnOf "_law_all" "_law_all" (defArgs (top 37)) (defBody (top 37)) (defScope (top 37)) .none kV18 dc18 pm18 an18 cd18 ct18), sl18⟩) (c18 : PySem.W.codeIn K cd18 "_law_all" = true) (k18 : PySem.W.keepIn K (.ref f18) = true)
    {f19 : Addr} {od19 an19 : Option Addr} {sl19 : Array (Option Value)} {oc19 kV19 dc19 pm19 cd19 ct19 : Value}
    (a19 : PySem.W.nsIn K mainGlobals "law" = some (some (.ref f19))) (l19 : K.lookup f19 = some ⟨oc19, od19, .func (PySem.W.fnOf "law" "law" (defArgs (top 38)) (defBody (top 38)) (defScope (top 38)) .none kV19 dc19 pm19 an19 cd19 ct19), sl19⟩) (c19 : PySem.W.codeIn K cd19 "law" = true) (k19 : PySem.W.keepIn K (.ref f19) = true)
    {t0 : Tok} (n0 : PySem.W.nsIn K mainGlobals "MOST_EVENTS" = some (some (.int 6 t0)))
    {t1 : Tok} (n1 : PySem.W.nsIn K mainGlobals "MOST_RULES" = some (some (.int 12 t1)))
    {t2 : Tok} (n2 : PySem.W.nsIn K mainGlobals "FARTHEST" = some (some (.int 100 t2)))
    (z0 : PySem.W.nsIn K mainGlobals "isinstance" = some none)
    (z1 : PySem.W.nsIn K mainGlobals "int" = some none)
    (z2 : PySem.W.nsIn K mainGlobals "bool" = some none)
    (z3 : PySem.W.nsIn K mainGlobals "tuple" = some none)
    (z4 : PySem.W.nsIn K mainGlobals "list" = some none)
    (z5 : PySem.W.nsIn K mainGlobals "len" = some none)
    (z6 : PySem.W.nsIn K mainGlobals "all" = some none)
    (z7 : PySem.W.nsIn K mainGlobals "any" = some none)
    (z8 : PySem.W.nsIn K mainGlobals "enumerate" = some none)
    (z9 : PySem.W.nsIn K mainGlobals "range" = some none)
    (z10 : PySem.W.nsIn K mainGlobals "min" = some none)
    (z11 : PySem.W.nsIn K mainGlobals "max" = some none)
    (z12 : PySem.W.nsIn K mainGlobals "abs" = some none)
    : ∃ fd : FuncData, (∀ (s : Shared) (v : Value), BindsTo s fd ⟨[v], []⟩ [("_law_script", v)]) ∧ ∀ base : Heap, K.In base → base.Ns mainGlobals mg → FnOk l.prog w K mg base CX0 8 fa fd ["_law_script"] (spLaw K) := by
  have e := hfa.symm.trans (PySem.W.mg_of X G a19)
  cases e
  have T : Txt K mg := {
    hBetween := ⟨f0, _, fun_mk l0 c0 k0, PySem.W.mg_of X G a0, (fun_mk (st := top 8) l0 c0 k0).binds (ps := ["value", "low", "high"]) fun _ _ _ _ _ _ us hl => match us, hl with | [_, _, _], _ => rfl⟩
    hSide := ⟨f1, _, fun_mk l1 c1 k1, PySem.W.mg_of X G a1, (fun_mk (st := top 9) l1 c1 k1).binds (ps := ["value"]) fun _ _ _ _ _ _ us hl => match us, hl with | [_], _ => rfl⟩
    hRule := ⟨f2, _, fun_mk l2 c2 k2, PySem.W.mg_of X G a2, (fun_mk (st := top 10) l2 c2 k2).binds (ps := ["value", "size"]) fun _ _ _ _ _ _ us hl => match us, hl with | [_, _], _ => rfl⟩
    hNet := ⟨f3, _, fun_mk l3 c3 k3, PySem.W.mg_of X G a3, (fun_mk (st := top 11) l3 c3 k3).binds (ps := ["value"]) fun _ _ _ _ _ _ us hl => match us, hl with | [_], _ => rfl⟩
    hEdges := ⟨f4, _, fun_mk l4 c4 k4, PySem.W.mg_of X G a4, (fun_mk (st := top 12) l4 c4 k4).binds (ps := ["net"]) fun _ _ _ _ _ _ us hl => match us, hl with | [_], _ => rfl⟩
    hCheck := ⟨f5, _, fun_mk l5 c5 k5, PySem.W.mg_of X G a5, (fun_mk (st := top 14) l5 c5 k5).binds (ps := ["net"]) fun _ _ _ _ _ _ us hl => match us, hl with | [_], _ => rfl⟩
    hLonger := ⟨f6, _, fun_mk l6 c6 k6, PySem.W.mg_of X G a6, (fun_mk (st := top 15) l6 c6 k6).binds (ps := ["net", "walks"]) fun _ _ _ _ _ _ us hl => match us, hl with | [_, _], _ => rfl⟩
    hFirst := ⟨f7, _, fun_mk l7 c7 k7, PySem.W.mg_of X G a7, (fun_mk (st := top 16) l7 c7 k7).binds (ps := ["net"]) fun _ _ _ _ _ _ us hl => match us, hl with | [_], _ => rfl⟩
    hShort := ⟨f8, _, fun_mk l8 c8 k8, PySem.W.mg_of X G a8, (fun_mk (st := top 17) l8 c8 k8).binds (ps := ["net"]) fun _ _ _ _ _ _ us hl => match us, hl with | [_], _ => rfl⟩
    hWith := ⟨f9, _, fun_mk l9 c9 k9, PySem.W.mg_of X G a9, (fun_mk (st := top 18) l9 c9 k9).binds (ps := ["best", "pair", "value"]) fun _ _ _ _ _ _ us hl => match us, hl with | [_, _, _], _ => rfl⟩
    hBounds := ⟨f10, _, fun_mk l10 c10 k10, PySem.W.mg_of X G a10, (fun_mk (st := top 19) l10 c10 k10).binds (ps := ["net"]) fun _ _ _ _ _ _ us hl => match us, hl with | [_], _ => rfl⟩
    hCan := ⟨f11, _, fun_mk l11 c11 k11, PySem.W.mg_of X G a11, (fun_mk (st := top 20) l11 c11 k11).binds (ps := ["net"]) fun _ _ _ _ _ _ us hl => match us, hl with | [_], _ => rfl⟩
    hKept := ⟨f12, _, fun_mk l12 c12 k12, PySem.W.mg_of X G a12, (fun_mk (st := top 21) l12 c12 k12).binds (ps := ["net"]) fun _ _ _ _ _ _ us hl => match us, hl with | [_], _ => rfl⟩
    hTight := ⟨f13, _, fun_mk l13 c13 k13, PySem.W.mg_of X G a13, (fun_mk (st := top 22) l13 c13 k13).binds (ps := ["net"]) fun _ _ _ _ _ _ us hl => match us, hl with | [_], _ => rfl⟩
    hStream := ⟨f14, _, fun_mk l14 c14 k14, PySem.W.mg_of X G a14, (fun_mk (st := top 24) l14 c14 k14).binds (ps := ["_law_script"]) fun _ _ _ _ _ _ us hl => match us, hl with | [_], _ => rfl⟩
    hNext := ⟨f15, _, fun_mk l15 c15 k15, PySem.W.mg_of X G a15, (fun_mk (st := top 25) l15 c15 k15).binds (ps := ["_law_stream_here", "_law_many"]) fun _ _ _ _ _ _ us hl => match us, hl with | [_, _], _ => rfl⟩
    hDraw := ⟨f16, _, fun_mk l16 c16 k16, PySem.W.mg_of X G a16, (fun_mk (st := top 28) l16 c16 k16).binds (ps := ["_law_stream_here", "_law_most", "_law_rules", "_law_far"]) fun _ _ _ _ _ _ us hl => match us, hl with | [_, _, _, _], _ => rfl⟩
    hHold := ⟨f17, _, fun_mk l17 c17 k17, PySem.W.mg_of X G a17, (fun_mk (st := top 33) l17 c17 k17).binds (ps := ["_law_net_here", "_law_heights"]) fun _ _ _ _ _ _ us hl => match us, hl with | [_, _], _ => rfl⟩
    hAll := ⟨f18, _, fun_mk l18 c18 k18, PySem.W.mg_of X G a18, (fun_mk (st := top 37) l18 c18 k18).binds (ps := ["_law_size", "_law_zero"]) fun _ _ _ _ _ _ us hl => match us, hl with | [_, _], _ => rfl⟩
    events := ⟨_, PySem.W.mg_of X G n0⟩
    rules := ⟨_, PySem.W.mg_of X G n1⟩
    far := ⟨_, PySem.W.mg_of X G n2⟩
    bIsi := PySem.W.mg_none_of X G z0
    bInt := PySem.W.mg_none_of X G z1
    bBool := PySem.W.mg_none_of X G z2
    bTup := PySem.W.mg_none_of X G z3
    bList := PySem.W.mg_none_of X G z4
    bLen := PySem.W.mg_none_of X G z5
    bAll := PySem.W.mg_none_of X G z6
    bAny := PySem.W.mg_none_of X G z7
    bEnum := PySem.W.mg_none_of X G z8
    bRange := PySem.W.mg_none_of X G z9
    bMin := PySem.W.mg_none_of X G z10
    bMax := PySem.W.mg_none_of X G z11
    bAbs := PySem.W.mg_none_of X G z12 }
  refine ⟨PySem.W.fnOf "law" "law" (defArgs (top 38)) (defBody (top 38)) (defScope (top 38)) .none kV19 dc19 pm19 an19 cd19 ct19, fun s v => .of_eq rfl, fun base _ _ => ?_⟩
  have cB : Cal l.prog w K mg base 1 "is_between" spBetween := T.hBetween.cal fun f fd F => okBetween T F
  have cS : Cal l.prog w K mg base 2 "is_side" spSide := T.hSide.cal fun f fd F => okSide T cB F
  have cR : Cal l.prog w K mg base 3 "is_rule" spRule := T.hRule.cal fun f fd F => okRule T cB cS F
  have cN : Cal l.prog w K mg base 4 "is_net" spNet := T.hNet.cal fun f fd F => okNet T cB cR F
  have cC : Cal l.prog w K mg base 5 "check_net" spCheck := T.hCheck.cal fun f fd F => okCheck T cN F
  have cE : Cal l.prog w K mg base 1 "edges_of" spEdges := T.hEdges.cal fun f fd F => okEdges T F
  have cL : Cal l.prog w K mg base 2 "longer_walks" spLonger := T.hLonger.cal fun f fd F => okLonger T cE F
  have cF : Cal l.prog w K mg base 3 "first_round" spFirst := T.hFirst.cal fun f fd F => okFirst T cL F
  have cW : Cal l.prog w K mg base 1 "with_walk" spWith := T.hWith.cal fun f fd F => okWith T F
  have cSh : Cal l.prog w K mg base 3 "shortest_walks" spShort := T.hShort.cal fun f fd F => okShort T cL cW F
  have cBo : Cal l.prog w K mg base 4 "bounds_of" spBounds := T.hBounds.cal fun f fd F => okBounds T cF cSh F
  have cCa : Cal l.prog w K mg base 6 "can_keep" spCan := T.hCan.cal fun f fd F => okCan T cC cF F
  have cKe : Cal l.prog w K mg base 6 "check_kept" spKept := T.hKept.cal fun f fd F => okKept T cC cF F
  have cTi : Cal l.prog w K mg base 7 "tight" spTight := T.hTight.cal fun f fd F => okTight T cKe cBo F
  have cSt : Cal l.prog w K mg base 1 "_law_stream" (spStream K) := T.hStream.cal fun f fd F => okStream T F
  have cX : Cal l.prog w K mg base 1 "_law_next" spNext := T.hNext.cal fun f fd F => okNext T F
  have cHo : Cal l.prog w K mg base 1 "_law_hold" spHold := T.hHold.cal fun f fd F => okHold T F
  have cAl : Cal l.prog w K mg base 1 "_law_all" spAll := T.hAll.cal fun f fd F => okAll T F
  have cDr : Cal l.prog w K mg base 2 "_law_net" spDraw := T.hDraw.cal fun f fd F => okDraw T cX F
  exact okLaw T cSt cDr cX cAl cHo cCa cTi (fun_mk (st := top 38) l19 c19 k19)
theorem walk {l : PySem.W.OpenLaw} {q : Program} {loose : List Str} {XP : (Str → Option Value) → Heap → Prop} {YP : World → Heap → Prop} {d : DefRec} {K : Params → PySem.W.Frag} (hn : l.most = some 63) (hdf : d.params.defaults = [])
    (hY : ∀ (w : World) (h : Heap), YP w h → (K w.params).In h)
    (F : ∀ (w : World) (mg : Str → Option Value) (fa : Addr) (h : Heap), (K w.params).In h → h.Ns mainGlobals mg → mg d.name = some (.ref fa) →
      ∃ fd : FuncData, (∀ (s : Shared) (u : Value), BindsTo s fd ⟨[u], []⟩ [("_law_script", u)]) ∧ ∀ base : Heap, (K w.params).In base → base.Ns mainGlobals mg → FnOk l.prog w (K w.params) mg base CX0 8 fa fd ["_law_script"] (spLaw (K w.params))) :
    PySem.W.WalkO q loose XP YP l.row.toRowW d [] (fun f vs => PySem.call f vs) :=
  L2.walk_of (n := 63) (k := 8) (x := "_law_script") (CX := fun _ => CX0) (sp := fun w => spLaw (K w.params)) hn (by decide) hdf ⟨rfl, by decide, by decide⟩ hY F (fun _ _ a ns hl _ hS => ⟨a, ns, rfl, hS, hl, fun _ => rfl⟩) fun _ _ _ _ _ z => z
end Ab
open PySem PySem.W PyProof.Rows in
set_option maxRecDepth 100000 in
set_option maxHeartbeats 0 in
theorem PySem.Challenge.cw_allbide_k11_whole_greatest_differences_holds : PySem.Challenge.rw_allbide_k11_whole_greatest_differences.Holds := by
  w_on; o_law; k_head; (case hw => w_witness2)
  k_fill
  refine Ab.walk (l := PySem.Challenge.rw_allbide_k11_whole_greatest_differences) rfl rfl (fun w h Y => PySem.W.kIn_of Y) ?F
  case F =>
    intro w mg fa h KX G hmg
    refine' Ab.all_mk KX G hmg ?a0 ?l0 ?c0 ?k0 ?a1 ?l1 ?c1 ?k1 ?a2 ?l2 ?c2 ?k2 ?a3 ?l3 ?c3 ?k3 ?a4 ?l4 ?c4 ?k4 ?a5 ?l5 ?c5 ?k5 ?a6 ?l6 ?c6 ?k6 ?a7 ?l7 ?c7 ?k7 ?a8 ?l8 ?c8 ?k8 ?a9 ?l9 ?c9 ?k9 ?a10 ?l10 ?c10 ?k10 ?a11 ?l11 ?c11 ?k11 ?a12 ?l12 ?c12 ?k12 ?a13 ?l13 ?c13 ?k13 ?a14 ?l14 ?c14 ?k14 ?a15 ?l15 ?c15 ?k15 ?a16 ?l16 ?c16 ?k16 ?a17 ?l17 ?c17 ?k17 ?a18 ?l18 ?c18 ?k18 ?a19 ?l19 ?c19 ?k19 ?n0 ?n1 ?n2 ?z0 ?z1 ?z2 ?z3 ?z4 ?z5 ?z6 ?z7 ?z8 ?z9 ?z10 ?z11 ?z12
    (case a0 => k_is)
    (case l0 => k_is)
    (case c0 => k_is)
    (case k0 => k_is)
    (case a1 => k_is)
    (case l1 => k_is)
    (case c1 => k_is)
    (case k1 => k_is)
    (case a2 => k_is)
    (case l2 => k_is)
    (case c2 => k_is)
    (case k2 => k_is)
    (case a3 => k_is)
    (case l3 => k_is)
    (case c3 => k_is)
    (case k3 => k_is)
    (case a4 => k_is)
    (case l4 => k_is)
    (case c4 => k_is)
    (case k4 => k_is)
    (case a5 => k_is)
    (case l5 => k_is)
    (case c5 => k_is)
    (case k5 => k_is)
    (case a6 => k_is)
    (case l6 => k_is)
    (case c6 => k_is)
    (case k6 => k_is)
    (case a7 => k_is)
    (case l7 => k_is)
    (case c7 => k_is)
    (case k7 => k_is)
    (case a8 => k_is)
    (case l8 => k_is)
    (case c8 => k_is)
    (case k8 => k_is)
    (case a9 => k_is)
    (case l9 => k_is)
    (case c9 => k_is)
    (case k9 => k_is)
    (case a10 => k_is)
    (case l10 => k_is)
    (case c10 => k_is)
    (case k10 => k_is)
    (case a11 => k_is)
    (case l11 => k_is)
    (case c11 => k_is)
    (case k11 => k_is)
    (case a12 => k_is)
    (case l12 => k_is)
    (case c12 => k_is)
    (case k12 => k_is)
    (case a13 => k_is)
    (case l13 => k_is)
    (case c13 => k_is)
    (case k13 => k_is)
    (case a14 => k_is)
    (case l14 => k_is)
    (case c14 => k_is)
    (case k14 => k_is)
    (case a15 => k_is)
    (case l15 => k_is)
    (case c15 => k_is)
    (case k15 => k_is)
    (case a16 => k_is)
    (case l16 => k_is)
    (case c16 => k_is)
    (case k16 => k_is)
    (case a17 => k_is)
    (case l17 => k_is)
    (case c17 => k_is)
    (case k17 => k_is)
    (case a18 => k_is)
    (case l18 => k_is)
    (case c18 => k_is)
    (case k18 => k_is)
    (case a19 => k_is)
    (case l19 => k_is)
    (case c19 => k_is)
    (case k19 => k_is)
    (case n0 => k_is)
    (case n1 => k_is)
    (case n2 => k_is)
    (case z0 => k_is)
    (case z1 => k_is)
    (case z2 => k_is)
    (case z3 => k_is)
    (case z4 => k_is)
    (case z5 => k_is)
    (case z6 => k_is)
    (case z7 => k_is)
    (case z8 => k_is)
    (case z9 => k_is)
    (case z10 => k_is)
    (case z11 => k_is)
    (case z12 => k_is)
