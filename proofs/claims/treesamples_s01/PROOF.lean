import PyProof.Rows.All
import Wide.All
import OpenK.AllK
import Wide.FinOn
import Open.SpecLaws
import KE.OsGo
import HandS.ForSpec
import HandS.ForMost
import HandS.Walk
import HandS.RevRange
import HandS.Flow
import PySem.Challenge.RW_treesamples_s01_answers
set_option Elab.async false
set_option maxHeartbeats 1000000
/-! # The mathematics: plain lists and numbers, no program in sight -/
namespace My
open Si59

/-! ### 1. distances, widths -/
/-- the square of a distance, in whole numbers -/
def sqI (a b : Nat × Nat) : Int := ((a.1 : Int) - b.1) * ((a.1 : Int) - b.1) + ((a.2 : Int) - b.2) * ((a.2 : Int) - b.2)
theorem apart_sq (a b : Nat) : ((apart a b * apart a b : Nat) : Int) = ((a : Int) - b) * ((a : Int) - b) := by
  unfold apart
  rcases Nat.le_total a b with h | h
  · have e : (((a - b) + (b - a) : Nat) : Int) = -((a : Int) - b) := by omega
    rw [Int.natCast_mul, e, Int.neg_mul_neg]
  · have e : (((a - b) + (b - a) : Nat) : Int) = (a : Int) - b := by omega
    rw [Int.natCast_mul, e]
theorem far_sq (t : Tree) (p : Nat × Nat) : ((far t p : Nat) : Int) = sqI (t.x, t.y) p := by
  unfold far sqI
  rw [Int.natCast_add, apart_sq, apart_sq]
theorem sqI_self {t : Tree} {p : Nat × Nat} : sqI (t.x, t.y) p = (far t p : Nat) := (far_sq t p).symm
theorem apart_le {a b : Nat} (ha : a ≤ 2000) (hb : b ≤ 2000) : apart a b ≤ 2000 := by unfold apart; omega
theorem far_le {t : Tree} {p : Nat × Nat} (hx : t.x ≤ 2000) (hy : t.y ≤ 2000) (h1 : p.1 ≤ 2000) (h2 : p.2 ≤ 2000) : far t p ≤ 8000000 := by
  unfold far
  have a := Nat.mul_le_mul (apart_le hx h1) (apart_le hx h1)
  have b := Nat.mul_le_mul (apart_le hy h2) (apart_le hy h2)
  omega
/-- a thickness is wide enough, in whole numbers -/
def wideI (th sq k : Int) : Bool := decide (4 * k * sq ≤ 100 * th * th)
theorem wide_is (k th d : Nat) : wide k th d = wideI (th : Int) (d : Int) (k : Int) := by
  unfold wide wideI
  have e : (4 * k * d ≤ 100 * th * th) ↔ (4 * (k : Int) * d ≤ 100 * th * th) := by
    rw [← Int.ofNat_le]
    simp only [Int.natCast_mul]
    rfl
  exact decide_eq_decide.mpr e
theorem sure_is {t : Tree} (h : t.wrong < t.thick) (k : Nat) (p : Nat × Nat) : wideI ((t.thick : Int) - t.wrong) (sqI (t.x, t.y) p) k = sure k t p := by
  unfold sure
  rw [wide_is, sqI_self]
  congr 1
  omega
theorem maybe_is (t : Tree) (k : Nat) (p : Nat × Nat) : wideI ((t.thick : Int) + t.wrong) (sqI (t.x, t.y) p) k = maybe k t p := by
  unfold maybe
  rw [wide_is, sqI_self, Int.natCast_add]

/-! ### 2. which trees are counted from a point -/
abbrev noTree : Tree := ⟨0, 0, 0, 0⟩
def sureL (ts : List Tree) (p : Nat × Nat) (k : Nat) : List Nat := (List.range ts.length).filter fun i => sure k (ts.getD i noTree) p
def maybeL (ts : List Tree) (p : Nat × Nat) (k : Nat) : List Nat := (List.range ts.length).filter fun i => maybe k (ts.getD i noTree) p
theorem surely_is (w : Wood) (k i : Nat) : w.surely k i = sureL w.trees (w.point i) k := rfl
theorem perhaps_is (w : Wood) (k i : Nat) : w.perhaps k i = maybeL w.trees (w.point i) k := rfl
theorem sure_maybe {k : Nat} {t : Tree} {p : Nat × Nat} (h : sure k t p = true) : maybe k t p = true := by
  unfold sure wide at h
  unfold maybe wide
  have h := of_decide_eq_true h
  apply decide_eq_true
  refine Nat.le_trans h ?_
  have a : t.thick - t.wrong ≤ t.thick + t.wrong := by omega
  exact Nat.mul_le_mul (Nat.mul_le_mul (Nat.le_refl _) a) a
theorem filter_len_le {α : Type} {p q : α → Bool} (h : ∀ x, p x = true → q x = true) : ∀ l : List α, (l.filter p).length ≤ (l.filter q).length
  | [] => Nat.le_refl _
  | a :: r => by
    have ih := filter_len_le h r
    rw [List.filter_cons, List.filter_cons]
    cases e : p a with
    | true =>
      rw [h a e]
      simpa using ih
    | false =>
      cases q a
      · simpa using ih
      · simp only [if_true, List.length_cons]
        simp
        omega
theorem sureL_le (ts : List Tree) (p : Nat × Nat) (k : Nat) : (sureL ts p k).length ≤ (maybeL ts p k).length := filter_len_le (fun _ h => sure_maybe h) _
theorem sureL_len (ts : List Tree) (p : Nat × Nat) (k : Nat) : (sureL ts p k).length ≤ ts.length := by
  unfold sureL
  exact Nat.le_trans (List.length_filter_le _ _) (by simp)
theorem maybeL_len (ts : List Tree) (p : Nat × Nat) (k : Nat) : (maybeL ts p k).length ≤ ts.length := by
  unfold maybeL
  exact Nat.le_trans (List.length_filter_le _ _) (by simp)
/-- one tree more -/
theorem filter_range_succ (f : Nat → Bool) (i : Nat) : (List.range (i + 1)).filter f = (List.range i).filter f ++ (if f i = true then [i] else []) := by
  rw [List.range_succ, List.filter_append, List.filter_cons, List.filter_nil]

/-! ### 3. all choices, the earlier ones first -/
theorem among_succ (a n : Nat) : among a (n + 1) = [[]] ++ ((among (a + 1) n).map fun l => [a] ++ l) ++ (among (a + 1) n).drop 1 := rfl
theorem among_zero (a : Nat) : among a 0 = [[]] := rfl
theorem among_len : ∀ n a : Nat, (among a n).length = 2 ^ n
  | 0, _ => rfl
  | n + 1, a => by
    rw [among_succ]
    simp only [List.length_append, List.length_map, List.length_drop, List.length_cons, List.length_nil, among_len n]
    have : 1 ≤ 2 ^ n := Nat.one_le_two_pow
    rw [Nat.pow_succ]
    omega
/-- of each: its numbers are from a on, below a + n, rising -/
theorem among_mem : ∀ (n a : Nat) (c : List Nat), c ∈ among a n → (∀ x ∈ c, a ≤ x ∧ x < a + n) ∧ c.Pairwise (· < ·)
  | 0, a, c, h => by
    rw [among_zero] at h
    have e : c = [] := by simpa using h
    subst e
    exact ⟨by simp, .nil⟩
  | n + 1, a, c, h => by
    rw [among_succ] at h
    rcases List.mem_append.mp h with h | h
    · rcases List.mem_append.mp h with h | h
      · have e : c = [] := by simpa using h
        subst e
        exact ⟨by simp, .nil⟩
      · obtain ⟨d, hd, rfl⟩ := List.mem_map.mp h
        obtain ⟨h1, h2⟩ := among_mem n (a + 1) d hd
        refine ⟨fun x hx => ?_, ?_⟩
        · rcases List.mem_cons.mp hx with rfl | hx
          · omega
          · have := h1 x hx
            omega
        · exact List.pairwise_cons.mpr ⟨fun x hx => by have := h1 x hx; omega, h2⟩
    · obtain ⟨h1, h2⟩ := among_mem n (a + 1) c (List.mem_of_mem_drop h)
      exact ⟨fun x hx => by have := h1 x hx; omega, h2⟩
theorem among_nil (a n : Nat) : [] ∈ among a n := by
  cases n with
  | zero => simp [among_zero]
  | succ n => rw [among_succ]; simp
theorem rise_nodup {c : List Nat} (h : c.Pairwise (· < ·)) : c.Nodup := h.imp fun h => Nat.ne_of_lt h
theorem nodup_sub_len : ∀ (l m : List Nat), l.Nodup → (∀ x ∈ l, x ∈ m) → l.length ≤ m.length
  | [], _, _, _ => Nat.zero_le _
  | x :: r, m, h, s => by
    obtain ⟨h1, h2⟩ := List.nodup_cons.mp h
    have hx : x ∈ m := s x List.mem_cons_self
    have ih := nodup_sub_len r (m.erase x) h2 fun y hy => (List.mem_erase_of_ne (fun e : y = x => h1 (by subst e; exact hy))).mpr (s y (List.mem_cons_of_mem _ hy))
    have e := List.length_erase_of_mem hx
    have p : 0 < m.length := List.length_pos_of_mem hx
    rw [List.length_cons]
    omega
theorem below_len {c : List Nat} {n : Nat} (h : c.Nodup) (hb : ∀ x ∈ c, x < n) : c.length ≤ n := by
  have q := nodup_sub_len c (List.range n) h fun x hx => List.mem_range.mpr (hb x hx)
  simpa using q

/-! ### 4. a set of numbers, as the keys of a dict stand -/
def addK (l : List Nat) (x : Nat) : List Nat := if x ∈ l then l else l ++ [x]
def addAll (l : List Nat) (xs : List Nat) : List Nat := xs.foldl addK l
theorem addK_nodup {l : List Nat} {x : Nat} (h : l.Nodup) : (addK l x).Nodup := by
  unfold addK
  split
  · exact h
  · rename_i hx
    refine List.nodup_append.mpr ⟨h, by simp, ?_⟩
    intro a ha b hb e
    have : b = x := by simpa using hb
    subst this
    subst e
    exact hx ha
theorem addK_mem {l : List Nat} {x y : Nat} : y ∈ addK l x ↔ y ∈ l ∨ y = x := by
  unfold addK
  split
  · rename_i hx
    constructor
    · exact .inl
    · rintro (h | rfl)
      · exact h
      · exact hx
  · simp
theorem addAll_nodup : ∀ {xs l : List Nat}, l.Nodup → (addAll l xs).Nodup
  | [], _, h => h
  | x :: r, l, h => addAll_nodup (xs := r) (l := addK l x) (addK_nodup h)
theorem addAll_mem : ∀ {xs l : List Nat} {y : Nat}, y ∈ addAll l xs ↔ y ∈ l ∨ y ∈ xs
  | [], _, _ => by simp [addAll]
  | x :: r, l, y => by
    show y ∈ addAll (addK l x) r ↔ _
    rw [addAll_mem, addK_mem]
    simp only [List.mem_cons]
    exact or_assoc
theorem addAll_app (l xs ys : List Nat) : addAll l (xs ++ ys) = addAll (addAll l xs) ys := List.foldl_append ..
/-- so many as there are, all below n: n of them if all are in -/
theorem full_len {l : List Nat} {n : Nat} (h : l.Nodup) (hb : ∀ x ∈ l, x < n) : decide (l.length = n) = (List.range n).all fun i => decide (i ∈ l) := by
  rw [Bool.eq_iff_iff, decide_eq_true_iff, List.all_eq_true]
  constructor
  · intro e i hi
    refine decide_eq_true (Decidable.byContradiction fun hn => ?_)
    have q := below_len (c := i :: l) (n := n) (List.nodup_cons.mpr ⟨hn, h⟩) fun x hx => by
      rcases List.mem_cons.mp hx with rfl | hx
      · exact List.mem_range.mp hi
      · exact hb x hx
    rw [List.length_cons] at q
    omega
  · intro hall
    have a := below_len h hb
    have b := nodup_sub_len (List.range n) l List.nodup_range fun i hi => of_decide_eq_true (hall i hi)
    simp at b
    omega

/-! ### 5. a choice covers all; a choice counts none twice -/
/-- what is seen from the points of a choice, one behind another -/
def seenOf (seen : List (List Nat)) (c : List Nat) : List Nat := c.flatMap fun p => seen.getD p []
/-- the program's test -/
def covers (seen : List (List Nat)) (n : Nat) (c : List Nat) : Bool := decide ((addAll [] (seenOf seen c)).length = n)
def noTwice (seen : List (List Nat)) (c : List Nat) : Bool := decide (seenOf seen c).Nodup
def seenS (w : Wood) (k : Nat) : List (List Nat) := w.points.map fun p => sureL w.trees p k
def seenM (w : Wood) (k : Nat) : List (List Nat) := w.points.map fun p => maybeL w.trees p k
theorem seenS_at {w : Wood} {k p : Nat} (h : p < w.points.length) : (seenS w k).getD p [] = sureL w.trees (w.point p) k := by
  unfold seenS Wood.point
  simp [List.getD_eq_getElem?_getD, h]
theorem seenM_at {w : Wood} {k p : Nat} (h : p < w.points.length) : (seenM w k).getD p [] = maybeL w.trees (w.point p) k := by
  unfold seenM Wood.point
  simp [List.getD_eq_getElem?_getD, h]
theorem mem_sureL {ts : List Tree} {p : Nat × Nat} {k i : Nat} : i ∈ sureL ts p k ↔ i < ts.length ∧ sure k (ts.getD i noTree) p = true := by
  unfold sureL
  rw [List.mem_filter, List.mem_range]
theorem mem_maybeL {ts : List Tree} {p : Nat × Nat} {k i : Nat} : i ∈ maybeL ts p k ↔ i < ts.length ∧ maybe k (ts.getD i noTree) p = true := by
  unfold maybeL
  rw [List.mem_filter, List.mem_range]
theorem maybeL_nodup (ts : List Tree) (p : Nat × Nat) (k : Nat) : (maybeL ts p k).Nodup := List.nodup_range.filter _
theorem covers_is {w : Wood} {k : Nat} {c : List Nat} (h : ∀ p ∈ c, p < w.points.length) : covers (seenS w k) w.trees.length c = w.all k c := by
  have hm : ∀ i, i ∈ addAll [] (seenOf (seenS w k) c) ↔ ∃ p, p ∈ c ∧ i < w.trees.length ∧ sure k (w.tree i) (w.point p) = true := fun i => by
    rw [addAll_mem]
    unfold seenOf
    simp only [List.not_mem_nil, false_or, List.mem_flatMap]
    constructor
    · rintro ⟨p, hp, hi⟩
      rw [seenS_at (h p hp)] at hi
      exact ⟨p, hp, mem_sureL.mp hi⟩
    · rintro ⟨p, hp, hi⟩
      refine ⟨p, hp, ?_⟩
      rw [seenS_at (h p hp)]
      exact mem_sureL.mpr hi
  unfold covers Wood.all
  rw [full_len (addAll_nodup .nil) fun x hx => by obtain ⟨p, _, q, _⟩ := (hm x).mp hx; exact q]
  rw [Bool.eq_iff_iff, List.all_eq_true, List.all_eq_true]
  constructor
  · intro hall i hi
    obtain ⟨p, hp, _, q⟩ := (hm i).mp (of_decide_eq_true (hall i hi))
    exact List.any_eq_true.mpr ⟨p, hp, q⟩
  · intro hall i hi
    obtain ⟨p, hp, q⟩ := List.any_eq_true.mp (hall i hi)
    exact decide_eq_true ((hm i).mpr ⟨p, hp, List.mem_range.mp hi, q⟩)
/-- how often a number stands in what is seen: once for each point that sees it -/
theorem count_seen {w : Wood} {k i : Nat} (hi : i < w.trees.length) : ∀ {c : List Nat}, (∀ p ∈ c, p < w.points.length) → (seenOf (seenM w k) c).count i = (c.filter fun p => maybe k (w.tree i) (w.point p)).length
  | [], _ => rfl
  | p :: r, h => by
    have ih := count_seen (w := w) (k := k) hi (c := r) fun q hq => h q (List.mem_cons_of_mem _ hq)
    show ((seenM w k).getD p [] ++ seenOf (seenM w k) r).count i = _
    rw [List.count_append, ih, seenM_at (h p List.mem_cons_self), List.filter_cons]
    by_cases e : maybe k (w.tree i) (w.point p) = true
    · rw [if_pos e, List.length_cons, (maybeL_nodup _ _ _).count, if_pos (mem_maybeL.mpr ⟨hi, e⟩), Nat.add_comm]
    · rw [if_neg e, (maybeL_nodup _ _ _).count, if_neg fun q => e (mem_maybeL.mp q).2, Nat.zero_add]
theorem noTwice_is {w : Wood} {k : Nat} {c : List Nat} (h : ∀ p ∈ c, p < w.points.length) : noTwice (seenM w k) c = w.once k c := by
  unfold noTwice Wood.once
  rw [Bool.eq_iff_iff, decide_eq_true_iff, List.all_eq_true, List.nodup_iff_count]
  constructor
  · intro hc i hi
    rw [← count_seen (List.mem_range.mp hi) h]
    exact decide_eq_true (hc i)
  · intro hall i
    by_cases hi : i < w.trees.length
    · rw [count_seen hi h]
      exact of_decide_eq_true (hall i (List.mem_range.mpr hi))
    · have : i ∉ seenOf (seenM w k) c := fun q => by
        unfold seenOf at q
        obtain ⟨p, hp, q⟩ := List.mem_flatMap.mp q
        rw [seenM_at (h p hp)] at q
        exact hi (mem_maybeL.mp q).1
      rw [List.count_eq_zero.mpr this]
      exact Nat.zero_le _

/-! ### 6. the best choices -/
/-- a number is that of a choice, and none is better -/
structure IsBest (better : Nat → Nat → Bool) (l : List (List Nat)) (m : Nat) : Prop where
  there : ∃ c ∈ l, c.length = m
  best : ∀ c ∈ l, better c.length m = false
def ofLen (l : List (List Nat)) (m : Nat) : List (List Nat) := l.filter fun c => decide (c.length = m)
/-- what is told of choices of a size -/
def toldOf (l : List (List Nat)) (m : Nat) : Best := ⟨m, (ofLen l m).length, (ofLen l m).headD []⟩
structure Order (better : Nat → Nat → Bool) : Prop where
  no : ∀ a, better a a = false
  asym : ∀ a b, better a b = true → better b a = false
  tot : ∀ a b, a ≠ b → better a b = false → better b a = true
  tr : ∀ a b c, better b a = false → better c b = false → better c a = false
theorem order_lt : Order fun a b => decide (a < b) := by
  constructor <;> intros <;> simp_all <;> omega
theorem order_gt : Order fun a b => decide (b < a) := by
  constructor <;> intros <;> simp_all <;> omega
theorem best_one {better : Nat → Nat → Bool} (O : Order better) {l : List (List Nat)} {m n : Nat} (a : IsBest better l m) (b : IsBest better l n) : m = n := by
  refine Decidable.byContradiction fun e => ?_
  obtain ⟨c, hc, rfl⟩ := a.there
  obtain ⟨d, hd, rfl⟩ := b.there
  have h1 := a.best d hd
  have h2 := b.best c hc
  have h3 := O.tot _ _ e h2
  rw [h1] at h3
  cases h3
theorem ofLen_app (l : List (List Nat)) (r : List Nat) (m : Nat) : ofLen (l ++ [r]) m = ofLen l m ++ (if r.length = m then [r] else []) := by
  unfold ofLen
  rw [List.filter_append, List.filter_cons, List.filter_nil]
  congr 1
  by_cases e : r.length = m <;> simp [e]
theorem bestOf_app (better : Nat → Nat → Bool) (l : List (List Nat)) (r : List Nat) : bestOf better (l ++ [r]) = (match bestOf better l with
  | none => some ⟨r.length, 1, r⟩
  | some x => if better r.length x.points = true then some ⟨r.length, 1, r⟩ else if r.length = x.points then some ⟨x.points, x.many + 1, x.first⟩ else some x) := by
  unfold bestOf
  rw [List.foldl_append]
  rfl
theorem headD_app {l : List (List Nat)} {r : List (List Nat)} (h : l ≠ []) : (l ++ r).headD [] = l.headD [] := by
  cases l with
  | nil => exact absurd rfl h
  | cons a t => rfl
theorem snoc_ind {α : Type} {P : List α → Prop} (h0 : P []) (h1 : ∀ l a, P l → P (l ++ [a])) (l : List α) : P l := by
  have h : ∀ l : List α, P l.reverse := fun l => by
    induction l with
    | nil => exact h0
    | cons a r ih =>
      rw [List.reverse_cons]
      exact h1 _ a ih
  have := h l.reverse
  rwa [List.reverse_reverse] at this
theorem bestOf_is {better : Nat → Nat → Bool} (O : Order better) : ∀ l : List (List Nat), (l = [] ∧ bestOf better l = none) ∨ ∃ m, IsBest better l m ∧ bestOf better l = some (toldOf l m) := by
  refine snoc_ind (.inl ⟨rfl, rfl⟩) fun l r ih => ?_
  · refine .inr ?_
    rw [bestOf_app]
    rcases ih with ⟨rfl, e⟩ | ⟨m, B, e⟩
    · refine ⟨r.length, ⟨⟨r, by simp, rfl⟩, fun c hc => ?_⟩, ?_⟩
      · have : c = r := by simpa using hc
        subst this
        exact O.no _
      · rw [e]
        unfold toldOf
        rw [ofLen_app]
        simp [ofLen]
    · rw [e]
      have pos : ofLen l m ≠ [] := by
        obtain ⟨c, hc, q⟩ := B.there
        intro z
        have : c ∈ ofLen l m := List.mem_filter.mpr ⟨hc, decide_eq_true q⟩
        rw [z] at this
        cases this
      by_cases hb : better r.length m = true
      · refine ⟨r.length, ⟨⟨r, by simp, rfl⟩, fun c hc => ?_⟩, ?_⟩
        · rcases List.mem_append.mp hc with hc | hc
          · exact O.tr _ _ _ (O.asym _ _ hb) (B.best c hc)
          · have : c = r := by simpa using hc
            subst this
            exact O.no _
        · show (if better r.length m = true then _ else _) = _
          rw [if_pos hb]
          have z : ofLen l r.length = [] := by
            refine List.filter_eq_nil_iff.mpr fun c hc q => ?_
            have q := of_decide_eq_true q
            have := B.best c hc
            rw [q, hb] at this
            cases this
          unfold toldOf
          rw [ofLen_app, z, if_pos rfl]
          rfl
      · have hb : better r.length m = false := by simpa using hb
        refine ⟨m, ⟨?_, fun c hc => ?_⟩, ?_⟩
        · obtain ⟨c, hc, q⟩ := B.there
          exact ⟨c, List.mem_append_left _ hc, q⟩
        · rcases List.mem_append.mp hc with hc | hc
          · exact B.best c hc
          · have : c = r := by simpa using hc
            subst this
            exact hb
        · show (if better r.length m = true then _ else _) = _
          rw [hb, if_neg Bool.false_ne_true]
          by_cases q : r.length = m
          · show (if r.length = m then _ else _) = _
            rw [if_pos q]
            unfold toldOf
            rw [ofLen_app, if_pos q, headD_app pos, List.length_append]
            rfl
          · show (if r.length = m then _ else _) = _
            rw [if_neg q]
            unfold toldOf
            rw [ofLen_app, if_neg q, List.append_nil]
theorem bestOf_some {better : Nat → Nat → Bool} (O : Order better) {l : List (List Nat)} {m : Nat} (B : IsBest better l m) : bestOf better l = some (toldOf l m) := by
  rcases bestOf_is O l with ⟨rfl, _⟩ | ⟨n, B2, e⟩
  · obtain ⟨c, hc, _⟩ := B.there
    cases hc
  · rw [best_one O B B2]
    exact e

/-! ### 7. the greatest factor -/
def gf (t : Tree) (p : Nat × Nat) : Nat := if far t p = 0 then 1000 else min 1000 (100 * (t.thick - t.wrong) * (t.thick - t.wrong) / (4 * far t p))
theorem gf_le (t : Tree) (p : Nat × Nat) : gf t p ≤ 1000 := by
  unfold gf
  split
  · exact Nat.le_refl _
  · exact Nat.min_le_left _ _
theorem sure_gf {k : Nat} (t : Tree) (p : Nat × Nat) (hk : k ≤ 1000) : sure k t p = decide (k ≤ gf t p) := by
  unfold sure wide gf
  by_cases h : far t p = 0
  · rw [if_pos h, h, Nat.mul_zero, decide_eq_true (Nat.zero_le _), decide_eq_true hk]
  · rw [if_neg h]
    apply decide_eq_decide.mpr
    have pos : 0 < 4 * far t p := by omega
    rw [Nat.le_min]
    have e : (4 * k * far t p) = k * (4 * far t p) := by rw [Nat.mul_comm 4 k, Nat.mul_assoc]
    rw [e, Nat.le_div_iff_mul_le pos]
    exact ⟨fun h => ⟨hk, h⟩, fun h => h.2⟩
/-- the factors of the trees, from a point -/
def facs (ts : List Tree) (p : Nat × Nat) : List Nat := ts.map fun t => gf t p
theorem filter_range_getD (f : Tree → Bool) : ∀ ts : List Tree, ((List.range ts.length).filter fun i => f (ts.getD i noTree)).length = (ts.filter f).length
  | [] => rfl
  | t :: r => by
    rw [List.length_cons, List.range_succ_eq_map, List.filter_cons, List.filter_map, List.filter_cons]
    have e : ((fun i => f ((t :: r).getD i noTree)) ∘ Nat.succ) = fun i => f (r.getD i noTree) := rfl
    rw [e]
    have z : (t :: r).getD 0 noTree = t := rfl
    rw [z]
    by_cases c : f t = true
    · rw [if_pos c, if_pos c, List.length_cons, List.length_cons, List.length_map, filter_range_getD f r]
    · rw [if_neg c, if_neg c, List.length_map, filter_range_getD f r]
theorem sureL_count {k : Nat} (ts : List Tree) (p : Nat × Nat) (hk : k ≤ 1000) : (sureL ts p k).length = (facs ts p).countP fun f => decide (k ≤ f) := by
  unfold sureL facs
  rw [filter_range_getD (fun t => sure k t p), List.countP_map, List.countP_eq_length_filter]
  congr 1
  refine congrArg (fun q => List.filter q ts) ?_
  funext t
  exact sure_gf t p hk
/-- of numbers in order: n of them at least are k at least -/
theorem sorted_count {s : List Nat} (h : s.Pairwise (· ≤ ·)) {n k : Nat} (h0 : 0 < n) (hn : n ≤ s.length) : (n ≤ s.countP fun f => decide (k ≤ f)) ↔ k ≤ s.getD (s.length - n) 0 := by
  have hi : s.length - n < s.length := by omega
  have ed : s.getD (s.length - n) 0 = s[s.length - n] := by simp [List.getD_eq_getElem?_getD, hi]
  have sp : s = s.take (s.length - n) ++ (s[s.length - n] :: s.drop (s.length - n + 1)) := by
    rw [← List.drop_eq_getElem_cons hi, List.take_append_drop]
  have hp := h
  rw [sp] at hp
  obtain ⟨_, h2, h3⟩ := List.pairwise_append.mp hp
  obtain ⟨h4, _⟩ := List.pairwise_cons.mp h2
  rw [ed]
  have ct : s.countP (fun f => decide (k ≤ f)) = (s.take (s.length - n)).countP (fun f => decide (k ≤ f)) + (s[s.length - n] :: s.drop (s.length - n + 1)).countP (fun f => decide (k ≤ f)) := by
    rw [← List.countP_append, ← sp]
  constructor
  · intro hc
    refine Decidable.byContradiction fun hk => ?_
    have z : (s.take (s.length - n)).countP (fun f => decide (k ≤ f)) = 0 := by
      refine List.countP_eq_zero.mpr fun x hx q => ?_
      have q := of_decide_eq_true q
      have := h3 x hx _ List.mem_cons_self
      omega
    have z2 : (s[s.length - n] :: s.drop (s.length - n + 1)).countP (fun f => decide (k ≤ f)) ≤ (s.drop (s.length - n + 1)).length := by
      rw [List.countP_cons, if_neg (by simpa using hk)]
      exact List.countP_le_length
    rw [List.length_drop] at z2
    omega
  · intro hk
    have z : (s[s.length - n] :: s.drop (s.length - n + 1)).countP (fun f => decide (k ≤ f)) = (s[s.length - n] :: s.drop (s.length - n + 1)).length := by
      refine List.countP_eq_length.mpr fun x hx => decide_eq_true ?_
      rcases List.mem_cons.mp hx with rfl | hx
      · exact hk
      · exact Nat.le_trans hk (h4 x hx)
    rw [ct, z, List.length_cons, List.length_drop]
    omega
/-- the last number with which a thing holds that holds of all below, too -/
def lastK (f : Nat → Bool) (m : Nat) : Nat := (List.range (m + 1)).foldl (fun b k => if f k = true then k else b) 0
theorem lastK_succ (f : Nat → Bool) (m : Nat) : lastK f (m + 1) = if f (m + 1) = true then m + 1 else lastK f m := by
  unfold lastK
  rw [List.range_succ, List.foldl_append]
  rfl
theorem down_of {f : Nat → Bool} (h : ∀ k, f (k + 1) = true → f k = true) : ∀ {a b : Nat}, a ≤ b → f b = true → f a = true := by
  intro a b hab
  induction hab with
  | refl => exact id
  | step _ ih => exact fun q => ih (h _ q)
theorem lastK_is {f : Nat → Bool} (h : ∀ k, f (k + 1) = true → f k = true) : ∀ m : Nat, lastK f m ≤ m ∧ ∀ k, 1 ≤ k → k ≤ m → (f k = true ↔ k ≤ lastK f m)
  | 0 => by
    refine ⟨?_, fun k h1 h2 => by omega⟩
    unfold lastK
    simp
  | m + 1 => by
    obtain ⟨h1, h2⟩ := lastK_is h m
    rw [lastK_succ]
    by_cases e : f (m + 1) = true
    · rw [if_pos e]
      exact ⟨Nat.le_refl _, fun k _ k2 => ⟨fun _ => k2, fun _ => down_of h k2 e⟩⟩
    · rw [if_neg e]
      refine ⟨Nat.le_succ_of_le h1, fun k k1 k2 => ?_⟩
      by_cases q : k = m + 1
      · subst q
        constructor
        · intro z
          exact absurd z e
        · intro z
          omega
      · exact h2 k k1 (by omega)
/-- it is told by its property -/
theorem lastK_one {f : Nat → Bool} (h : ∀ k, f (k + 1) = true → f k = true) {m r : Nat} (hr : r ≤ m) (hk : ∀ k, 1 ≤ k → k ≤ m → (f k = true ↔ k ≤ r)) : lastK f m = r := by
  obtain ⟨h1, h2⟩ := lastK_is h m
  rcases Nat.lt_trichotomy (lastK f m) r with q | q | q
  · have a := (hk r (by omega) hr).mpr (Nat.le_refl _)
    have b := (h2 r (by omega) hr).mp a
    omega
  · exact q
  · have a := (h2 (lastK f m) (by omega) h1).mpr (Nat.le_refl _)
    have b := (hk _ (by omega) h1).mp a
    omega
theorem sure_down {k : Nat} {t : Tree} {p : Nat × Nat} (h : sure (k + 1) t p = true) : sure k t p = true := by
  unfold sure wide at *
  have h := of_decide_eq_true h
  exact decide_eq_true (Nat.le_trans (Nat.mul_le_mul (Nat.mul_le_mul (Nat.le_refl _) (Nat.le_succ k)) (Nat.le_refl _)) h)
theorem sureL_down (ts : List Tree) (p : Nat × Nat) (k : Nat) : (sureL ts p (k + 1)).length ≤ (sureL ts p k).length := filter_len_le (fun _ h => sure_down h) _
/-- the greatest factor for one point -/
def mostAt (ts : List Tree) (p : Nat × Nat) (n : Nat) : Nat := lastK (fun k => decide (n ≤ (sureL ts p k).length)) 1000
theorem one_down (ts : List Tree) (p : Nat × Nat) (n k : Nat) (h : decide (n ≤ (sureL ts p (k + 1)).length) = true) : decide (n ≤ (sureL ts p k).length) = true :=
  decide_eq_true (Nat.le_trans (of_decide_eq_true h) (sureL_down ts p k))
theorem mostAt_le (ts : List Tree) (p : Nat × Nat) (n : Nat) : mostAt ts p n ≤ 1000 := (lastK_is (one_down ts p n) 1000).1
theorem mostAt_zero (ts : List Tree) (p : Nat × Nat) : mostAt ts p 0 = 1000 :=
  lastK_one (one_down ts p 0) (Nat.le_refl _) fun _ _ k2 => ⟨fun _ => k2, fun _ => decide_eq_true (Nat.zero_le _)⟩
theorem mostAt_over (ts : List Tree) (p : Nat × Nat) {n : Nat} (h : ts.length < n) : mostAt ts p n = 0 :=
  lastK_one (one_down ts p n) (Nat.zero_le _) fun k k1 _ => ⟨fun z => by
    have := of_decide_eq_true z
    have := sureL_len ts p k
    omega, fun z => by omega⟩
theorem mostAt_sorted (ts : List Tree) (p : Nat × Nat) {n : Nat} {s : List Nat} (hs : s.Perm (facs ts p)) (hr : s.Pairwise (· ≤ ·)) (h0 : 0 < n) (hn : n ≤ ts.length) : mostAt ts p n = s.getD (s.length - n) 0 := by
  have hl : s.length = ts.length := by rw [hs.length_eq]; simp [facs]
  have hi : s.length - n < s.length := by omega
  refine lastK_one (one_down ts p n) ?_ fun k _ k2 => ?_
  · have ed : s.getD (s.length - n) 0 = s[s.length - n] := by simp [List.getD_eq_getElem?_getD, hi]
    rw [ed]
    have m : s[s.length - n] ∈ facs ts p := hs.mem_iff.mp (List.getElem_mem hi)
    obtain ⟨t, _, e⟩ := List.mem_map.mp m
    rw [← e]
    exact gf_le t p
  · rw [decide_eq_true_iff, sureL_count ts p k2, ← hs.countP_eq, sorted_count hr h0 (by omega)]
theorem enough_is (w : Wood) (k n : Nat) : w.enough k n = w.points.all fun p => decide (n ≤ (sureL w.trees p k).length) := by
  unfold Wood.enough
  rw [Bool.eq_iff_iff, List.all_eq_true, List.all_eq_true]
  constructor
  · intro h p hp
    obtain ⟨i, hi, e⟩ := List.getElem_of_mem hp
    have := h i (List.mem_range.mpr hi)
    rw [surely_is] at this
    have q : w.point i = p := by unfold Wood.point; simp [List.getD_eq_getElem?_getD, hi, e]
    rw [q] at this
    exact this
  · intro h i hi
    have hi := List.mem_range.mp hi
    have q : w.point i = w.points[i] := by unfold Wood.point; simp [List.getD_eq_getElem?_getD, hi]
    rw [surely_is, q]
    exact h _ (List.getElem_mem hi)
theorem enough_down (w : Wood) (n k : Nat) (h : w.enough (k + 1) n = true) : w.enough k n = true := by
  rw [enough_is, List.all_eq_true] at *
  exact fun p hp => one_down _ _ _ _ (h p hp)
theorem most_lastK (w : Wood) (n : Nat) : w.most n = lastK (fun k => w.enough k n) 1000 := rfl
/-- the least of the points' greatest factors -/
theorem most_is {w : Wood} {n m : Nat} (hm : ∃ p ∈ w.points, mostAt w.trees p n = m) (hl : ∀ p ∈ w.points, m ≤ mostAt w.trees p n) : w.most n = m := by
  rw [most_lastK]
  refine lastK_one (enough_down w n) ?_ fun k k1 k2 => ?_
  · obtain ⟨p, _, e⟩ := hm
    rw [← e]
    exact mostAt_le _ _ _
  · rw [enough_is, List.all_eq_true]
    have one : ∀ p, decide (n ≤ (sureL w.trees p k).length) = true ↔ k ≤ mostAt w.trees p n := fun p => (lastK_is (f := fun k => decide (n ≤ (sureL w.trees p k).length)) (one_down w.trees p n) 1000).2 k k1 k2
    constructor
    · intro h
      obtain ⟨p, hp, e⟩ := hm
      rw [← e]
      exact (one p).mp (h p hp)
    · intro h p hp
      exact (one p).mpr (Nat.le_trans h (hl p hp))

/-! ### 8. what the trees are worth -/
theorem total_is (w : Wood) (k : Nat) : total w k = (w.points.map fun p => (sureL w.trees p k).length).sum := by
  unfold total
  congr 1
  refine List.ext_getElem (by simp) fun i h1 h2 => ?_
  have hi : i < w.points.length := by simpa using h2
  have q : w.point i = w.points[i] := by unfold Wood.point; simp [List.getD_eq_getElem?_getD, hi]
  simp only [List.getElem_map, List.getElem_range]
  rw [surely_is, q]
theorem sum_le {l : List Nat} {m : Nat} (h : ∀ x ∈ l, x ≤ m) : l.sum ≤ l.length * m := by
  induction l with
  | nil => simp
  | cons a r ih =>
    have := ih fun x hx => h x (List.mem_cons_of_mem _ hx)
    have := h a List.mem_cons_self
    rw [List.sum_cons, List.length_cons, Nat.succ_mul]
    omega
theorem total_le {w : Wood} (k : Nat) (h1 : w.points.length ≤ 8) (h2 : w.trees.length ≤ 12) : total w k ≤ 96 := by
  rw [total_is]
  have := sum_le (l := w.points.map fun p => (sureL w.trees p k).length) (m := 12) fun x hx => by
    obtain ⟨p, _, rfl⟩ := List.mem_map.mp hx
    exact Nat.le_trans (sureL_len _ _ _) h2
  rw [List.length_map] at this
  omega

/-! ### 9. the calls, one behind another -/
/-- what holds of every wood -/
structure Good (w : Wood) : Prop where
  nt : w.trees.length ≤ 12
  np : w.points.length ≤ 8
  tr : ∀ t ∈ w.trees, t.x ≤ 2000 ∧ t.y ≤ 2000 ∧ t.thick ≤ 300 ∧ t.wrong < t.thick
  pt : ∀ p ∈ w.points, p.1 ≤ 2000 ∧ p.2 ≤ 2000
theorem good_init : Good Si59.init := ⟨Nat.zero_le _, Nat.zero_le _, fun _ h => (List.not_mem_nil h).elim, fun _ h => (List.not_mem_nil h).elim⟩
/-- a call's answer, as the program gives it -/
def ansOf (w : Wood) (q : Call) : List Int := (Si59.step w q).2.v :: (Si59.step w q).2.l
def nextOf (w : Wood) (q : Call) : Wood := (Si59.step w q).1
theorem good_next {w : Wood} (G : Good w) (q : Call) : Good (nextOf w q) := by
  unfold nextOf
  cases q with
  | begins => exact good_init
  | tree t =>
    show Good (if _ then _ else _ : Wood × Ans).1
    split
    · exact G
    · rename_i h
      split
      · exact G
      · rename_i h2
        have b : t.x ≤ 2000 ∧ t.y ≤ 2000 ∧ t.thick ≤ 300 ∧ t.wrong < t.thick := by
          unfold FAR THICK at h
          omega
        refine ⟨?_, G.np, fun u hu => ?_, G.pt⟩
        · unfold TREES at h2
          show (w.trees ++ [t]).length ≤ 12
          rw [List.length_append, List.length_singleton]
          omega
        · rcases List.mem_append.mp hu with hu | hu
          · exact G.tr u hu
          · have : u = t := by simpa using hu
            subst this
            exact b
  | point x y =>
    show Good (if _ then _ else _ : Wood × Ans).1
    split
    · exact G
    · rename_i h
      split
      · exact G
      · rename_i h2
        refine ⟨G.nt, ?_, G.tr, fun u hu => ?_⟩
        · unfold POINTS at h2
          show (w.points ++ [(x, y)]).length ≤ 8
          rw [List.length_append, List.length_singleton]
          omega
        · rcases List.mem_append.mp hu with hu | hu
          · exact G.pt u hu
          · have : u = (x, y) := by simpa using hu
            subst this
            unfold FAR at h
            show x ≤ 2000 ∧ y ≤ 2000
            omega
  | count p k =>
    show Good (if _ then _ else _ : Wood × Ans).1
    split
    · exact G
    · split <;> exact G
  | worth k =>
    show Good (if _ then _ else _ : Wood × Ans).1
    split
    · exact G
    · split <;> exact G
  | most n =>
    show Good (if _ then _ else _ : Wood × Ans).1
    split <;> exact G
  | cover k =>
    show Good (if _ then _ else _ : Wood × Ans).1
    split <;> exact G
  | once k =>
    show Good (if _ then _ else _ : Wood × Ans).1
    split <;> exact G

end My

set_option Elab.async false
set_option maxHeartbeats 1000000
/-! # The calls as one list of numbers -/
namespace My
open Si59

/-- how many numbers a call has behind its own -/
def widths : List Nat := [0, 4, 2, 2, 1, 1, 1, 1]
theorem shape_is {p : Int} {n k : Nat} (h : PySi59.shape p = some (n, k)) : k = 0 ∧ ∃ j : Nat, p = (j : Int) ∧ widths[j]? = some n := by
  unfold PySi59.shape at h
  repeat' split at h
  · rename_i e; cases h; exact ⟨rfl, 0, e, rfl⟩
  · rename_i e; cases h; exact ⟨rfl, 1, e, rfl⟩
  · rename_i e; cases h; exact ⟨rfl, 2, e, rfl⟩
  · rename_i e; cases h; exact ⟨rfl, 3, e, rfl⟩
  · rename_i e; cases h; exact ⟨rfl, 4, e, rfl⟩
  · rename_i e; cases h; exact ⟨rfl, 5, e, rfl⟩
  · rename_i e; cases h; exact ⟨rfl, 6, e, rfl⟩
  · rename_i e; cases h; exact ⟨rfl, 7, e, rfl⟩
  · cases h
/-- the first call of a list of calls, and the others -/
theorem calls_cons {f : Nat} {p : Int} {r : List Int} {cs : List (List (List Int))} (h : PyFlat.calls PySi59.shape f (p :: r) = some cs) :
    ∃ (j n f' : Nat) (cs' : List (List (List Int))), p = (j : Int) ∧ widths[j]? = some n ∧ n ≤ r.length ∧ cs = [p :: r.take n] :: cs' ∧ PyFlat.calls PySi59.shape f' (r.drop n) = some cs' := by
  cases f with
  | zero => cases h
  | succ f =>
    unfold PyFlat.calls at h
    unfold PyFlat.call at h
    cases hs : PySi59.shape p with
    | none => simp [hs] at h
    | some nk =>
      obtain ⟨n, k⟩ := nk
      obtain ⟨rfl, j, e, ew⟩ := shape_is hs
      simp only [hs] at h
      by_cases hl : r.length < n
      · rw [if_pos hl] at h
        cases h
      · rw [if_neg hl] at h
        simp only [PyFlat.rows] at h
        cases hc : PyFlat.calls PySi59.shape f (r.drop n) with
        | none => simp [hc] at h
        | some cs' =>
          simp only [hc] at h
          exact ⟨j, n, f, cs', e, ew, by omega, (Option.some.inj h).symm, hc⟩
theorem calls_nil {f : Nat} {cs : List (List (List Int))} (h : PyFlat.calls PySi59.shape f [] = some cs) : cs = [] := by
  cases f <;> exact (Option.some.inj h).symm
theorem whole_is (c : List (List Int)) : PySi59.whole c = c := by
  unfold PySi59.whole
  split <;> rfl
theorem map_whole (cs : List (List (List Int))) : cs.map PySi59.whole = cs := by
  have e : PySi59.whole = id := funext whole_is
  rw [e, List.map_id]
/-- what is due of calls, from a state on -/
def due (w : Wood) (cs : List (List (List Int))) : List Int := PyFlat.told (PyFlat.played Si59Neutral.step w cs)
/-- a request: its calls, what is asked of each, what is due -/
theorem asked_is {ns : List Int} (h : PySi59.answers_asked ns = true) : ∃ cs, PyFlat.calls PySi59.shape ns.length ns = some cs ∧ (∀ c ∈ cs, Si59Neutral.asked1 c = true) ∧ PySi59.answers ns = due Si59.init cs ∧ (due Si59.init cs).length ≤ 10000000 := by
  unfold PySi59.answers_asked at h
  cases hc : PyFlat.calls PySi59.shape ns.length ns with
  | none => simp [hc] at h
  | some cs =>
    simp only [hc, Bool.and_eq_true, map_whole] at h
    obtain ⟨⟨⟨_, _⟩, ha⟩, hs⟩ := h
    have e : PySi59.answers ns = due Si59.init cs := by
      unfold PySi59.answers PySi59.calls
      simp only [hc, map_whole]
      rfl
    refine ⟨cs, rfl, ?_, e, ?_⟩
    · unfold Si59Neutral.asked at ha
      simp only [Bool.and_eq_true] at ha
      exact List.all_eq_true.mp ha.1
    · rw [← e]
      exact of_decide_eq_true hs
/-- a call that is asked: its numbers -/
theorem asked1_is {p : Int} {ws : List Int} (h : Si59Neutral.asked1 [p :: ws] = true) : ∃ q, Si59Neutral.callOf (p :: ws) = some q ∧ ∀ z ∈ ws, 0 ≤ z ∧ z < 4294967296 := by
  unfold Si59Neutral.asked1 at h
  simp only [Bool.and_eq_true, List.headD_cons, List.all_cons] at h
  obtain ⟨_, ⟨_, hn⟩, hq⟩ := h
  obtain ⟨q, hq⟩ := Option.isSome_iff_exists.mp hq
  refine ⟨q, hq, fun z hz => ?_⟩
  have := List.all_eq_true.mp hn z hz
  unfold Si59Neutral.natural at this
  simp only [Bool.and_eq_true, decide_eq_true_iff] at this
  exact ⟨this.1, by have := this.2; omega⟩
theorem due_cons {w : Wood} {p : Int} {ws : List Int} {cs : List (List (List Int))} {q : Call} (h : Si59Neutral.callOf (p :: ws) = some q) :
    due w ([p :: ws] :: cs) = ((ansOf w q).length : Int) :: ansOf w q ++ due (nextOf w q) cs := by
  have e : Si59Neutral.step w [p :: ws] = (nextOf w q, ansOf w q) := by
    unfold Si59Neutral.step
    simp only [List.headD_cons, h]
    rfl
  have u : PyFlat.played Si59Neutral.step w ([p :: ws] :: cs) = (Si59Neutral.step w [p :: ws]).2 :: PyFlat.played Si59Neutral.step (Si59Neutral.step w [p :: ws]).1 cs := rfl
  unfold due PyFlat.told
  rw [u, e, List.flatMap_cons]
theorem due_nil (w : Wood) : due w [] = [] := rfl
/-- the words of a call, by its number -/
inductive Words : Nat → List Int → Call → Prop where
  | begins : Words 0 [] .begins
  | tree (x y d e : Nat) : Words 1 [(x : Int), (y : Int), (d : Int), (e : Int)] (.tree ⟨x, y, d, e⟩)
  | point (x y : Nat) : Words 2 [(x : Int), (y : Int)] (.point x y)
  | count (p k : Nat) : Words 3 [(p : Int), (k : Int)] (.count p k)
  | worth (k : Nat) : Words 4 [(k : Int)] (.worth k)
  | most (n : Nat) : Words 5 [(n : Int)] (.most n)
  | cover (k : Nat) : Words 6 [(k : Int)] (.cover k)
  | once (k : Nat) : Words 7 [(k : Int)] (.once k)
theorem len1 {l : List Int} (h : l.length = 1) (hn : ∀ z ∈ l, 0 ≤ z ∧ z < 4294967296) : ∃ a : Nat, l = [(a : Int)] := by
  match l, h with
  | [a], _ =>
    obtain ⟨h1, _⟩ := hn a (by simp)
    exact ⟨a.toNat, by rw [Int.toNat_of_nonneg h1]⟩
theorem len2 {l : List Int} (h : l.length = 2) (hn : ∀ z ∈ l, 0 ≤ z ∧ z < 4294967296) : ∃ a b : Nat, l = [(a : Int), (b : Int)] := by
  match l, h with
  | [a, b], _ =>
    obtain ⟨h1, _⟩ := hn a (by simp)
    obtain ⟨h2, _⟩ := hn b (by simp)
    exact ⟨a.toNat, b.toNat, by rw [Int.toNat_of_nonneg h1, Int.toNat_of_nonneg h2]⟩
theorem len4 {l : List Int} (h : l.length = 4) (hn : ∀ z ∈ l, 0 ≤ z ∧ z < 4294967296) : ∃ a b c d : Nat, l = [(a : Int), (b : Int), (c : Int), (d : Int)] := by
  match l, h with
  | [a, b, c, d], _ =>
    obtain ⟨h1, _⟩ := hn a (by simp)
    obtain ⟨h2, _⟩ := hn b (by simp)
    obtain ⟨h3, _⟩ := hn c (by simp)
    obtain ⟨h4, _⟩ := hn d (by simp)
    exact ⟨a.toNat, b.toNat, c.toNat, d.toNat, by rw [Int.toNat_of_nonneg h1, Int.toNat_of_nonneg h2, Int.toNat_of_nonneg h3, Int.toNat_of_nonneg h4]⟩
theorem words_is {j n : Nat} {ws : List Int} {q : Call} (hw : widths[j]? = some n) (hl : ws.length = n) (hn : ∀ z ∈ ws, 0 ≤ z ∧ z < 4294967296) (h : Si59Neutral.callOf ((j : Int) :: ws) = some q) : Words j ws q := by
  match j, hw with
  | 0, hw =>
    have e : n = 0 := (Option.some.inj hw).symm
    subst e
    obtain rfl := List.length_eq_zero_iff.mp hl
    have e := Option.some.inj (h.symm.trans (rfl : _ = some Call.begins))
    subst e
    exact .begins
  | 1, hw =>
    have e : n = 4 := (Option.some.inj hw).symm
    subst e
    obtain ⟨a, b, c, d, rfl⟩ := len4 hl hn
    have e := Option.some.inj (h.symm.trans (rfl : _ = some (Call.tree ⟨a, b, c, d⟩)))
    subst e
    exact .tree a b c d
  | 2, hw =>
    have e : n = 2 := (Option.some.inj hw).symm
    subst e
    obtain ⟨a, b, rfl⟩ := len2 hl hn
    have e := Option.some.inj (h.symm.trans (rfl : _ = some (Call.point a b)))
    subst e
    exact .point a b
  | 3, hw =>
    have e : n = 2 := (Option.some.inj hw).symm
    subst e
    obtain ⟨a, b, rfl⟩ := len2 hl hn
    have e := Option.some.inj (h.symm.trans (rfl : _ = some (Call.count a b)))
    subst e
    exact .count a b
  | 4, hw =>
    have e : n = 1 := (Option.some.inj hw).symm
    subst e
    obtain ⟨a, rfl⟩ := len1 hl hn
    have e := Option.some.inj (h.symm.trans (rfl : _ = some (Call.worth a)))
    subst e
    exact .worth a
  | 5, hw =>
    have e : n = 1 := (Option.some.inj hw).symm
    subst e
    obtain ⟨a, rfl⟩ := len1 hl hn
    have e := Option.some.inj (h.symm.trans (rfl : _ = some (Call.most a)))
    subst e
    exact .most a
  | 6, hw =>
    have e : n = 1 := (Option.some.inj hw).symm
    subst e
    obtain ⟨a, rfl⟩ := len1 hl hn
    have e := Option.some.inj (h.symm.trans (rfl : _ = some (Call.cover a)))
    subst e
    exact .cover a
  | 7, hw =>
    have e : n = 1 := (Option.some.inj hw).symm
    subst e
    obtain ⟨a, rfl⟩ := len1 hl hn
    have e := Option.some.inj (h.symm.trans (rfl : _ = some (Call.once a)))
    subst e
    exact .once a
  | j + 8, hw => simp [widths] at hw

end My

set_option Elab.async false
set_option maxRecDepth 100000
set_option maxHeartbeats 4000000
/-! # The walk, part 1: how things lie in the heap; numbers; trees -/
namespace My
open PySem PySem.Spec PyProof.Rows L2

/-! ### the text by places -/
def top (i : Nat) : Stmt := PySem.Challenge.pw_treesamples_s01_answers.main.body.getD i (.Pass ⟨0, 0, 0, 0⟩)
abbrev sChoices : Stmt := top 1
abbrev sAllIn : Stmt := top 2
abbrev sTwice : Stmt := top 3
abbrev sTold : Stmt := top 4
abbrev sFewest : Stmt := top 5
abbrev sMostP : Stmt := top 6
abbrev sFromTo : Stmt := top 8
abbrev sCommon : Stmt := top 9
abbrev sFraction : Stmt := top 10
abbrev sTreeInit : Stmt := inClass (top 13) 0
abbrev sSquare : Stmt := top 14
abbrev sWide : Stmt := top 15
abbrev sSurely : Stmt := top 16
abbrev sPerhaps : Stmt := top 17
abbrev sGreatest : Stmt := top 18
abbrev sSureOnes : Stmt := top 19
abbrev sPossOnes : Stmt := top 20
abbrev sIsPlace : Stmt := top 38
abbrev sIsFactor : Stmt := top 39
abbrev sWInit : Stmt := inClass (top 40) 0
abbrev sBegins : Stmt := inClass (top 40) 1
abbrev sTree : Stmt := inClass (top 40) 2
abbrev sPoint : Stmt := inClass (top 40) 3
abbrev sCount : Stmt := inClass (top 40) 4
abbrev sWorth : Stmt := inClass (top 40) 5
abbrev sMostAt : Stmt := inClass (top 40) 6
abbrev sMost : Stmt := inClass (top 40) 7
abbrev sCover : Stmt := inClass (top 40) 8
abbrev sOnce : Stmt := inClass (top 40) 9
abbrev sAnswer : Stmt := inClass (top 40) 10
abbrev sAnswers : Stmt := top 41

/-! ### small things about heaps and attributes -/
theorem lk_here {k : Str} {v : V} {r : List (Str × V)} : List.lookup k ((k, v) :: r) = some v := by
  have e : (k == k) = true := beq_self_eq_true k
  simp only [List.lookup, e]
theorem lk_past {k g : Str} {v : V} {r : List (Str × V)} (h : (k == g) = false) : List.lookup k ((g, v) :: r) = List.lookup k r := by
  simp only [List.lookup, h]
theorem put_here {f : Str} {v x : V} {r : List (Str × V)} : putF f v ((f, x) :: r) = (f, v) :: r := if_pos rfl
theorem put_past {f g : Str} {v x : V} {r : List (Str × V)} (h : ¬ g = f) : putF f v ((g, x) :: r) = (g, x) :: putF f v r := if_neg h
theorem put_new {f : Str} {v : V} : putF f v [] = [(f, v)] := rfl
theorem same_upd {H : Hp} {p : Addr} {o : HO} (hp : H p = Option.none) : Same H (upd H p o) := fun b u e => by
  rw [upd_ne (ne_of_none e hp)]
  exact e
/-- what was tracked ahead of a new object stays, whatever is stored in that object -/
theorem same_new {H H' : Hp} {p : Addr} {o : HO} (s : Same H H') (hp : H p = Option.none) : Same H (upd H' p o) := fun b u e => by
  rw [upd_ne (ne_of_none e hp)]
  exact s b u e

/-- a natural number, as a value -/
def vn (n : Nat) : V := .int (n : Nat)
theorem map_vn (l : List Nat) : (l.map fun n : Nat => (n : Int)).map V.int = l.map vn := by
  rw [List.map_map]
  rfl
/-- a list of numbers -/
def NatsAt (H : Hp) (a : Addr) (ns : List Nat) : Prop := H a = some (.lst (ns.map vn))
/-- a place -/
def PtAt (H : Hp) (a : Addr) (p : Nat × Nat) : Prop := H a = some (.tup [vn p.1, vn p.2])
/-- a tree's attributes -/
def tF (q : Addr) (t : Si59.Tree) : List (Str × V) := [("place", .ref q), ("low", .int ((t.thick : Int) - t.wrong)), ("high", .int ((t.thick : Int) + t.wrong))]
def TreeAt (CT : Addr) (H : Hp) (a : Addr) (t : Si59.Tree) : Prop := ∃ dx q, H a = some (.ins CT dx (tF q t)) ∧ PtAt H q (t.x, t.y)
theorem tF_place (q : Addr) (t : Si59.Tree) : (tF q t).lookup ("place" : Str) = some (.ref q) := lk_here
theorem tF_low (q : Addr) (t : Si59.Tree) : (tF q t).lookup ("low" : Str) = some (.int ((t.thick : Int) - t.wrong)) := (lk_past (by decide +kernel)).trans lk_here
theorem tF_high (q : Addr) (t : Si59.Tree) : (tF q t).lookup ("high" : Str) = some (.int ((t.thick : Int) + t.wrong)) := (lk_past (by decide +kernel)).trans ((lk_past (by decide +kernel)).trans lk_here)

/-- item by item -/
inductive All2 {α : Type} (R : Addr → α → Prop) : List Addr → List α → Prop where
  | nil : All2 R [] []
  | cons {r : Addr} {x : α} {rs : List Addr} {xs : List α} : R r x → All2 R rs xs → All2 R (r :: rs) (x :: xs)
section
variable {α : Type} {R S : Addr → α → Prop}
theorem All2.length : ∀ {rs : List Addr} {xs : List α}, All2 R rs xs → rs.length = xs.length
  | _, _, .nil => rfl
  | _, _, .cons _ t => congrArg (· + 1) t.length
theorem All2.app : ∀ {rs rs' : List Addr} {xs xs' : List α}, All2 R rs xs → All2 R rs' xs' → All2 R (rs ++ rs') (xs ++ xs')
  | _, _, _, _, .nil, s => s
  | _, _, _, _, .cons h t, s => .cons h (t.app s)
theorem All2.get : ∀ {rs : List Addr} {xs : List α} {i : Nat} {r : Addr}, All2 R rs xs → rs[i]? = some r → ∃ x, xs[i]? = some x ∧ R r x
  | _, _, _, _, .nil, e => by simp at e
  | _, _, 0, _, .cons h _, e => by
    simp at e
    subst e
    exact ⟨_, rfl, h⟩
  | _, _, i + 1, _, .cons _ t, e => by
    obtain ⟨x, h1, h2⟩ := All2.get (i := i) t (by simpa using e)
    exact ⟨x, by simpa using h1, h2⟩
theorem All2.at : ∀ {rs : List Addr} {xs : List α} {i : Nat} {x : α}, All2 R rs xs → xs[i]? = some x → ∃ r, rs[i]? = some r ∧ R r x
  | _, _, _, _, .nil, e => by simp at e
  | _, _, 0, _, .cons h _, e => by
    simp at e
    subst e
    exact ⟨_, rfl, h⟩
  | _, _, i + 1, _, .cons _ t, e => by
    obtain ⟨x, h1, h2⟩ := All2.at (i := i) t (by simpa using e)
    exact ⟨x, by simpa using h1, h2⟩
theorem All2.mono (h : ∀ r x, R r x → S r x) : ∀ {rs : List Addr} {xs : List α}, All2 R rs xs → All2 S rs xs
  | _, _, .nil => .nil
  | _, _, .cons q t => .cons (h _ _ q) (t.mono h)
theorem All2.drop : ∀ {rs : List Addr} {xs : List α} (n : Nat), All2 R rs xs → All2 R (rs.drop n) (xs.drop n)
  | _, _, 0, h => h
  | _, _, _ + 1, .nil => .nil
  | _, _, n + 1, .cons _ t => All2.drop n t
end
/-- a list of objects -/
def RefsAt {α : Type} (R : Hp → Addr → α → Prop) (H : Hp) (l : Addr) (xs : List α) : Prop := ∃ rs : List Addr, H l = some (.lst (rs.map V.ref)) ∧ All2 (R H) rs xs
/-- a description that lasts -/
def Keeps {α : Type} (R : Hp → Addr → α → Prop) : Prop := ∀ (H H' : Hp) (r : Addr) (x : α), Same H H' → R H r x → R H' r x
theorem keeps_nats : Keeps NatsAt := fun _ _ _ _ s h => s _ _ h
theorem keeps_pt : Keeps PtAt := fun _ _ _ _ s h => s _ _ h
theorem keeps_tree {CT : Addr} : Keeps (TreeAt CT) := fun _ _ _ _ s ⟨dx, q, h, h2⟩ => ⟨dx, q, s _ _ h, s _ _ h2⟩
theorem RefsAt.keep {α : Type} {R : Hp → Addr → α → Prop} (k : Keeps R) {H H' : Hp} {l : Addr} {xs : List α} (s : Same H H') (h : RefsAt R H l xs) : RefsAt R H' l xs :=
  let ⟨rs, e, a⟩ := h
  ⟨rs, s _ _ e, a.mono fun r x => k H H' r x s⟩
theorem map_ref_get {rs : List Addr} {i : Nat} {v : V} (h : (rs.map V.ref)[i]? = some v) : ∃ r, rs[i]? = some r ∧ v = .ref r := by
  rw [List.getElem?_map] at h
  cases e : rs[i]? with
  | none =>
    rw [e] at h
    cases h
  | some r =>
    rw [e] at h
    exact ⟨r, rfl, (Option.some.inj h).symm⟩
theorem map_vn_get {ns : List Nat} {i : Nat} {v : V} (h : (ns.map vn)[i]? = some v) : ∃ n, ns[i]? = some n ∧ v = vn n := by
  rw [List.getElem?_map] at h
  cases e : ns[i]? with
  | none =>
    rw [e] at h
    cases h
  | some r =>
    rw [e] at h
    exact ⟨r, rfl, (Option.some.inj h).symm⟩

/-! ### the facts of the text -/
/-- a module's constant -/
def ConstIs (mg : Str → Option Value) (x : Str) (v : V) : Prop := ∃ u, mg x = some u ∧ RelV v u
theorem const_int {mg : Str → Option Value} {x : Str} {i : Int} {t : Tok} (h : mg x = some (.int i t)) : ConstIs mg x (.int i) := ⟨_, h, t, rfl⟩
theorem pe_const {X : Cx} {x : Str} {v : V} {pos : Pos} (c : ConstIs X.mg x v) (hg : Gl X x) (hd : (x == ("__debug__" : Str)) = false := by decide) : PE X (.Name x pos) (tC v) := by
  obtain ⟨u, hm, r⟩ := c
  exact pe_glob hg hm r hd
/-- a def that may be called by its name -/
structure Callee (P : Program) (w : World) (K : PySem.W.Frag) (mg : Str → Option Value) (base : Heap) (k : Nat) (x : Str) (ps : List Str) (sp : Sp) : Prop where
  ex : ∃ (f : Addr) (fd : FuncData), FnOk P w K mg base CX0 k f fd ps sp ∧ mg x = some (.ref f) ∧ PySem.W.keepIn K (.ref f) = true ∧ Binds K fd ps []
theorem pe_by {X : Cx} {k : Nat} {x : Str} {ps : List Str} {sp : Sp} {e : Expr} {es : List Expr} {t : TA} {p pos : Pos} (c : Callee X.prog X.w X.K X.mg X.base k x ps sp) (hr : Room k X.A) (hg : Gl X x) (ha : PA X (e :: es) t)
    (hdb : (x == ("__debug__" : Str)) = false := by decide) (he : starEach (e :: es) X.env = (false, eval e X.env) :: starEach es X.env := by rfl) (hpl : (backTo pos (starEach es X.env)).any (·.1) = false := by rfl) :
    PE X (.Call (.Name x p) (e :: es) [] pos) (tCall sp [] E0 t) := by
  obtain ⟨f, fd, F, hm, hk, hb⟩ := c.ex
  exact pe_call F hr hg hm hk hb .nil pass0 ha hdb he hpl
/-- a method -/
structure Method (P : Program) (w : World) (K : PySem.W.Frag) (mg : Str → Option Value) (base : Heap) (k : Nat) (C : Addr) (m : Str) (ps : List Str) (sp : Sp) : Prop where
  ex : ∃ (f : Addr) (fd : FuncData), FnOk P w K mg base CX0 k f fd ps sp ∧ Meth K C m f ∧ Binds K fd ps []
  cl : Cls K C
/-- a class that makes instances -/
structure Maker (P : Program) (w : World) (K : PySem.W.Frag) (mg : Str → Option Value) (base : Heap) (k : Nat) (x : Str) (C : Addr) (ps : List Str) (sp : Sp) : Prop where
  ex : ∃ (f : Addr) (fd : FuncData), FnOk P w K mg base CX0 k f fd ps sp ∧ Mk K C f ∧ Binds K fd ps []
  gl : mg x = some (.ref C)
theorem pe_new {X : Cx} {k : Nat} {x : Str} {C : Addr} {ps : List Str} {sp : Sp} {e : Expr} {es : List Expr} {t : TA} {p pos : Pos} (c : Maker X.prog X.w X.K X.mg X.base k x C ps sp) (hr : Room (k + 1) X.A) (hg : Gl X x) (ha : PA X (e :: es) t)
    (hdb : (x == ("__debug__" : Str)) = false := by decide) (he : starEach (e :: es) X.env = (false, eval e X.env) :: starEach es X.env := by rfl) (hpl : (backTo pos (starEach es X.env)).any (·.1) = false := by rfl) :
    PE X (.Call (.Name x p) (e :: es) [] pos) (tMake C sp [] E0 t) := by
  obtain ⟨f, fd, F, M, hb⟩ := c.ex
  exact pe_make M F hr hg c.gl hb .nil pass0 ha hdb he hpl
theorem pe_new0 {X : Cx} {k : Nat} {x : Str} {C : Addr} {ps : List Str} {sp : Sp} {p pos : Pos} (c : Maker X.prog X.w X.K X.mg X.base k x C ps sp) (hr : Room (k + 1) X.A) (hg : Gl X x)
    (hdb : (x == ("__debug__" : Str)) = false := by decide) :
    PE X (.Call (.Name x p) [] [] pos) (tMake C sp [] E0 tNil) := by
  obtain ⟨f, fd, F, M, hb⟩ := c.ex
  exact pe_make0 M F hr hg c.gl hb .nil pass0 hdb
/-- what the top has written, beside the defs -/
structure Txt (K : PySem.W.Frag) (mg : Str → Option Value) (CT CW : Addr) : Prop where
  ct : Cls K CT
  cw : Cls K CW
  nPlace : NoAttr K CT "place"
  nLow : NoAttr K CT "low"
  nHigh : NoAttr K CT "high"
  nTrees : NoAttr K CW "trees"
  nPoints : NoAttr K CW "points"
  len : mg "len" = none
  range : mg "range" = none
  reversed : mg "reversed" = none
  enumerate : mg "enumerate" = none
  min : mg "min" = none
  max : mg "max" = none
  sum : mg "sum" = none
  sorted : mg "sorted" = none
  cFactor : ConstIs mg "MOST_FACTOR" (.int 1000)
  cNot : ConstIs mg "NOT_AS_TOLD" (.int (-1))
  cNoPoint : ConstIs mg "NO_POINT" (.int (-2))
  cFull : ConstIs mg "FULL" (.int (-5))
  cNotSo : ConstIs mg "NOT_SO" (.int (-6))
  cTrees : ConstIs mg "MOST_TREES" (.int 12)
  cPoints : ConstIs mg "MOST_POINTS" (.int 8)
  cPlace : ConstIs mg "MOST_PLACE" (.int 2000)
  cThick : ConstIs mg "MOST_THICKNESS" (.int 300)
  cBegins : ConstIs mg "BEGINS" (.int 0)
  cTree : ConstIs mg "TREE" (.int 1)
  cPoint : ConstIs mg "POINT" (.int 2)
  cCount : ConstIs mg "COUNT" (.int 3)
  cWorth : ConstIs mg "WORTH" (.int 4)
  cMost : ConstIs mg "MOST" (.int 5)
  cCover : ConstIs mg "COVER" (.int 6)
  cWidths : ∃ wt : Addr, mg "WIDTHS" = some (.ref wt) ∧ ∀ H : Hp, SqT K H wt [.int 0, .int 4, .int 2, .int 2, .int 1, .int 1, .int 1, .int 1]

section
variable {P : Program} {w : World} {K : PySem.W.Frag} {mg : Str → Option Value} {base : Heap} {CT CW : Addr}
/-! ### is_from_to -/
def spFromTo : Sp := fun vs H Q _ => ∃ a b c : Int, vs = [.int a, .int b, .int c] ∧ Q (.bl (decide (b ≤ a) && decide (a ≤ c))) H
theorem scFromTo : FnScope ["number", "least", "most"] ["number", "least", "most"] (defScope sFromTo) := ⟨rfl, rfl, rfl, by decide +kernel, rfl, by decide +kernel, by decide +kernel⟩
theorem ok_fromto {f : Addr} {fd : FuncData} (F : Fun K "is_from_to" "is_from_to" sFromTo f fd) : FnOk P w K mg base CX0 1 f fd ["number", "least", "most"] spFromTo := by
  refine F.ok scFromTo (fun vs H Q E h => ?_) (fun cdv A outer s H vs Q E hr h => ⟨_, pss_one (ps_ret (pe_chain op_le op_le (pv 1) (pv 0) (pv 2))), ?_⟩)
  · obtain ⟨a, b, c, rfl, _⟩ := h
    rfl
  · obtain ⟨a, b, c, rfl, q⟩ := h
    refine ⟨_, rfl, _, rfl, _, _, rfl, rfl, _, rfl, ?_⟩
    by_cases e : b ≤ a
    · rw [decide_eq_true e] at q ⊢
      refine iteT ⟨_, rfl, _, _, rfl, rfl, ?_⟩
      rw [Bool.true_and] at q
      exact q
    · rw [decide_eq_false e] at q ⊢
      exact iteF q
/-! ### common, fraction -/
def spCommon : Sp := fun vs H Q _ => ∃ a b : Nat, vs = [vn a, vn b] ∧ Q (vn (Nat.gcd a b)) H
theorem scCommon : FnScope ["one", "other"] ["one", "other"] (defScope sCommon) := ⟨rfl, rfl, rfl, by decide +kernel, rfl, by decide +kernel, by decide +kernel⟩
theorem ok_common {f : Addr} {fd : FuncData} (F : Fun K "common" "common" sCommon f fd) : FnOk P w K mg base CX0 1 f fd ["one", "other"] spCommon := by
  refine F.ok scCommon (fun vs H Q E h => ?_) (fun cdv A outer s H vs Q E hr h => ⟨_,
    pss_cons (ps_while PassesOwn.never (pt_cmpR op_ne (pv 1) pe_int (nomark _)) (pss_one (ps_par (i := 0) (j := 1) rfl scCommon.nd rfl rfl (by decide) rfl rfl (pa_cons (pv 1) (pa_cons (pe_op op_mod (pv 0) (pv 1)) pa_nil)) (by rfl))))
      (pss_one (ps_ret (pv 0))), ?_⟩)
  · obtain ⟨a, b, rfl, _⟩ := h
    rfl
  · obtain ⟨a, b, rfl, q⟩ := h
    refine while_by (fun σ H' => H' = H ∧ ∃ c d : Nat, σ = [some (vn c), some (vn d)] ∧ Nat.gcd c d = Nat.gcd a b)
      (fun σ _ => match σ with | [_, some (.int d)] => d.toNat | _ => 0) ⟨rfl, a, b, rfl, rfl⟩ ?_ ?_
    · rintro σ H' ⟨rfl, c, d, rfl, e⟩
      refine ⟨_, rfl, rfl, _, rfl, ?_⟩
      by_cases hd : d = 0
      · subst hd
        refine iteNS rfl ⟨_, rfl, ?_⟩
        rw [Nat.gcd_zero_right] at e
        rw [e]
        exact q
      · have hn : ¬ (vn d = V.int 0) := fun z => hd (by have := V.int.inj z; omega)
        rw [decide_eq_false hn]
        refine iteT ⟨_, rfl, _, rfl, _, rfl, _, _, rfl, rfl, (by show (0 : Int) < (d : Nat); omega), _, _, rfl, ⟨rfl, d, c % d, rfl, ?_⟩, ?_⟩
        · rw [← e, Nat.gcd_comm c d, Nat.gcd_rec d c, Nat.gcd_comm]
        · show (((c : Int) % (d : Int))).toNat < ((d : Nat) : Int).toNat
          have := Nat.mod_lt c (Nat.pos_of_ne_zero hd)
          have e1 : ((c : Int) % (d : Int)) = ((c % d : Nat) : Int) := rfl
          rw [e1, Int.toNat_natCast, Int.toNat_natCast]
          exact this
    · rintro σ H' R R' m ⟨v, e, e2, k, e3, q⟩
      exact ⟨v, e, e2, k, e3, m _ _ q⟩
def spFraction : Sp := fun vs H Q _ => ∃ a b : Nat, vs = [vn a, vn b] ∧ 0 < b ∧ b < 1073741824 ∧
  ∀ p, H p = none → Q (.ref p) (upd H p (.lst [vn (a / Nat.gcd a b), vn (b / Nat.gcd a b)]))
theorem scFraction : FnScope ["top", "bottom", "part"] ["top", "bottom"] (defScope sFraction) := ⟨rfl, rfl, rfl, by decide +kernel, rfl, by decide +kernel, by decide +kernel⟩
theorem ok_fraction {f : Addr} {fd : FuncData} (F : Fun K "fraction" "fraction" sFraction f fd) (cC : Callee P w K mg base 1 "common" ["one", "other"] spCommon) : FnOk P w K mg base CX0 2 f fd ["top", "bottom"] spFraction := by
  refine F.ok scFraction (fun vs H Q E h => ?_) (fun cdv A outer s H vs Q E hr h => ⟨_,
    pss_cons (ps_set (i := 2) scFraction.nd rfl (Or.inl rfl) (pe_by cC hr (by rfl) (pa_cons (pv 0) (pa_cons (pv 1) pa_nil))))
      (pss_one (ps_ret (pe_lst (pa_cons (pe_op op_fdiv (pv 0) (pv 2)) (pa_cons (pe_op op_fdiv (pv 1) (pv 2)) pa_nil))))), ?_⟩)
  · obtain ⟨a, b, rfl, _⟩ := h
    rfl
  · obtain ⟨a, b, rfl, hb, hb2, q⟩ := h
    have gp : 0 < Nat.gcd a b := Nat.gcd_pos_of_pos_right a hb
    have gl : Nat.gcd a b ≤ b := Nat.gcd_le_right a hb
    refine ⟨_, rfl, _, rfl, a, b, rfl, ?_⟩
    refine ⟨_, rfl, _, rfl, _, _, rfl, rfl, ⟨by omega, by omega⟩, _, rfl, _, rfl, _, _, rfl, rfl, ⟨by omega, by omega⟩, (by show 2 ≤ sizeLine; decide), fun p hp => ?_⟩
    exact q p hp
end
end My

set_option Elab.async false
set_option maxRecDepth 100000
set_option maxHeartbeats 4000000
/-! # The walk, part 2: trees, which are counted from a point -/
namespace My
open PySem PySem.Spec PyProof.Rows L2

/-! ### a new list that grows; all that was tracked ahead of it stays -/
def Acc (H1 : Hp) (D : Addr) (l : List V) (H : Hp) : Prop := H D = some (.lst l) ∧ Same H1 H
section
variable {H1 H H' : Hp} {D : Addr} {l : List V}
theorem Acc.start (hD : H1 D = none) : Acc H1 D [] (upd H1 D (.lst [])) := ⟨upd_same, same_upd hD⟩
theorem Acc.push (hD : H1 D = none) (a : Acc H1 D l H) (s : Same H H') (v : V) (hz : l.length < sizeLine) : ∃ acc, H' D = some (.lst acc) ∧ acc.length < sizeLine ∧ Acc H1 D (l ++ [v]) (upd H' D (.lst (acc ++ [v]))) :=
  ⟨l, s _ _ a.1, hz, upd_same, same_new (a.2.trans s) hD⟩
theorem Acc.skip (a : Acc H1 D l H) (s : Same H H') : Acc H1 D l H' := ⟨s _ _ a.1, a.2.trans s⟩
end
theorem small {n m : Nat} (h : n ≤ m) (hm : m < 16777216) : n < sizeLine := by
  rw [sizeLine_eq]
  omega

def GoodT (t : Si59.Tree) : Prop := t.x ≤ 2000 ∧ t.y ≤ 2000 ∧ t.thick ≤ 300 ∧ t.wrong < t.thick
def GoodP (p : Nat × Nat) : Prop := p.1 ≤ 2000 ∧ p.2 ≤ 2000

section
variable {P : Program} {w : World} {K : PySem.W.Frag} {mg : Str → Option Value} {base : Heap} {CT CW : Addr}
/-! ### Tree.__init__ -/
def spTreeInit (CT : Addr) : Sp := fun vs H Q _ => ∃ (p dx : Addr) (t : Si59.Tree), vs = [.ref p, vn t.x, vn t.y, vn t.thick, vn t.wrong] ∧ H p = some (.ins CT dx []) ∧
  ∀ H' : Hp, TreeAt CT H' p t → (∀ b o, H b = some o → b ≠ p → H' b = some o) → Q .non H'
theorem scTreeInit : FnScope ["self", "x", "y", "thickness", "wrong"] ["self", "x", "y", "thickness", "wrong"] (defScope sTreeInit) := ⟨rfl, rfl, rfl, by decide +kernel, rfl, by decide +kernel, by decide +kernel⟩
theorem ok_treeinit {f : Addr} {fd : FuncData} (F : Fun K "__init__" "Tree.__init__" sTreeInit f fd) (T : Txt K mg CT CW) : FnOk P w K mg base CX0 1 f fd ["self", "x", "y", "thickness", "wrong"] (spTreeInit CT) := by
  refine F.ok scTreeInit (fun vs H Q E h => ?_) (fun cdv A outer s H vs Q E hr h => ⟨_,
    pss_cons (ps_fld (pv 0) (pe_tup (pa_cons (pv 1) (pa_cons (pv 2) pa_nil))) rfl)
      (pss_cons (ps_fld (pv 0) (pe_op op_sub (pv 3) (pv 4)) rfl) (pss_one (ps_fld (pv 0) (pe_op op_add (pv 3) (pv 4)) rfl))), ?_⟩)
  · obtain ⟨p, dx, t, rfl, _⟩ := h
    rfl
  · obtain ⟨p, dx, t, rfl, hp, k⟩ := h
    refine ⟨_, rfl, _, rfl, (by show 2 ≤ sizeLine; decide), fun q hq => ?_⟩
    have pq : p ≠ q := ne_of_none hp hq
    refine ⟨_, rfl, p, CT, dx, [], rfl, (upd_ne pq).trans hp, T.ct, T.nPlace, (by show 0 < 1000; decide), ?_⟩
    refine ⟨_, rfl, _, rfl, _, _, rfl, rfl, _, rfl, p, CT, dx, _, rfl, upd_same, T.ct, T.nLow, (by show 1 < 1000; decide), ?_⟩
    refine ⟨_, rfl, _, rfl, _, _, rfl, rfl, _, rfl, p, CT, dx, _, rfl, upd_same, T.ct, T.nHigh, (by show 2 < 1000; decide), ?_⟩
    refine k _ ⟨dx, q, Eq.trans upd_same (congrArg (fun r => some (HO.ins CT dx r)) ?_), ?_⟩ fun b o e hb => ?_
    · rw [put_new, put_past (by decide +kernel), put_new, put_past (by decide +kernel), put_past (by decide +kernel), put_new]
      rfl
    · show upd _ _ _ q = _
      rw [upd_ne pq.symm, upd_ne pq.symm, upd_ne pq.symm, upd_same]
    · rw [upd_ne hb, upd_ne hb, upd_ne hb, upd_ne (ne_of_none e hq)]
      exact e

/-! ### square_of_distance -/
def spSquare : Sp := fun vs H Q _ => ∃ (a b : Addr) (p q : Nat × Nat), vs = [.ref a, .ref b] ∧ PtAt H a p ∧ PtAt H b q ∧ GoodP p ∧ GoodP q ∧ Q (.int (sqI p q)) H
theorem scSquare : FnScope ["one", "other", "across", "down"] ["one", "other"] (defScope sSquare) := ⟨rfl, rfl, rfl, by decide +kernel, rfl, by decide +kernel, by decide +kernel⟩
theorem ok_square {f : Addr} {fd : FuncData} (F : Fun K "square_of_distance" "square_of_distance" sSquare f fd) : FnOk P w K mg base CX0 1 f fd ["one", "other"] spSquare := by
  refine F.ok scSquare (fun vs H Q E h => ?_) (fun cdv A outer s H vs Q E hr h => ⟨_,
    pss_cons (ps_set (i := 2) scSquare.nd rfl (Or.inl rfl) (pe_op op_sub (pe_ix ix_tup (pv 0) pe_int (fun _ _ => rfl)) (pe_ix ix_tup (pv 1) pe_int (fun _ _ => rfl))))
      (pss_cons (ps_set (i := 3) scSquare.nd rfl (Or.inl rfl) (pe_op op_sub (pe_ix ix_tup (pv 0) pe_int (fun _ _ => rfl)) (pe_ix ix_tup (pv 1) pe_int (fun _ _ => rfl))))
      (pss_one (ps_ret (pe_op op_add (pe_op op_mul (pv 2) (pv 2)) (pe_op op_mul (pv 3) (pv 3)))))), ?_⟩)
  · obtain ⟨a, b, p, q, rfl, _⟩ := h
    rfl
  · obtain ⟨a, b, p, q, rfl, ha, hb, gp, gq, k⟩ := h
    refine ⟨_, rfl, a, _, _, _, rfl, rfl, SqT.of ha, at_of (j := 0) rfl rfl, _, rfl, b, _, _, _, rfl, rfl, SqT.of hb, at_of (j := 0) rfl rfl, _, _, rfl, rfl, ?_⟩
    refine ⟨_, rfl, a, _, _, _, rfl, rfl, SqT.of ha, at_of (j := 1) rfl rfl, _, rfl, b, _, _, _, rfl, rfl, SqT.of hb, at_of (j := 1) rfl rfl, _, _, rfl, rfl, ?_⟩
    obtain ⟨g1, g2⟩ := gp
    obtain ⟨g3, g4⟩ := gq
    refine ⟨_, rfl, _, rfl, _, _, rfl, rfl, Or.inl ⟨by omega, by omega⟩, _, rfl, _, rfl, _, _, rfl, rfl, Or.inl ⟨by omega, by omega⟩, _, _, rfl, rfl, k⟩

/-! ### is_wide_enough, is_surely_counted, is_perhaps_counted -/
def spWide : Sp := fun vs H Q _ => ∃ th sq k : Int, vs = [.int th, .int sq, .int k] ∧ (0 ≤ th ∧ th ≤ 600) ∧ (0 ≤ k ∧ k ≤ 1000) ∧ Q (.bl (wideI th sq k)) H
theorem scWide : FnScope ["thickness", "square", "factor"] ["thickness", "square", "factor"] (defScope sWide) := ⟨rfl, rfl, rfl, by decide +kernel, rfl, by decide +kernel, by decide +kernel⟩
theorem ok_wide {f : Addr} {fd : FuncData} (F : Fun K "is_wide_enough" "is_wide_enough" sWide f fd) : FnOk P w K mg base CX0 1 f fd ["thickness", "square", "factor"] spWide := by
  refine F.ok scWide (fun vs H Q E h => ?_) (fun cdv A outer s H vs Q E hr h => ⟨_,
    pss_one (ps_ret (pe_cmpR op_le (pe_op op_mul (pe_op op_mul pe_int (pv 2)) (pv 1)) (pe_op op_mul (pe_op op_mul pe_int (pv 0)) (pv 0)) (nomark _))), ?_⟩)
  · obtain ⟨th, sq, k, rfl, _⟩ := h
    rfl
  · obtain ⟨th, sq, k, rfl, ⟨h1, h2⟩, ⟨h3, h4⟩, q⟩ := h
    refine ⟨_, rfl, _, _, rfl, rfl, Or.inl ⟨by decide, by decide⟩, _, rfl, _, _, rfl, rfl, Or.inl ⟨by omega, by omega⟩, ?_⟩
    exact ⟨_, rfl, _, _, rfl, rfl, Or.inl ⟨by decide, by decide⟩, _, rfl, _, _, rfl, rfl, Or.inl ⟨by omega, by omega⟩, _, _, rfl, rfl, q⟩
def spSurely (CT : Addr) : Sp := fun vs H Q _ => ∃ (a b : Addr) (t : Si59.Tree) (p : Nat × Nat) (k : Nat), vs = [.ref a, .ref b, vn k] ∧ TreeAt CT H a t ∧ PtAt H b p ∧ GoodT t ∧ GoodP p ∧ k ≤ 1000 ∧ Q (.bl (Si59.sure k t p)) H
def spPerhaps (CT : Addr) : Sp := fun vs H Q _ => ∃ (a b : Addr) (t : Si59.Tree) (p : Nat × Nat) (k : Nat), vs = [.ref a, .ref b, vn k] ∧ TreeAt CT H a t ∧ PtAt H b p ∧ GoodT t ∧ GoodP p ∧ k ≤ 1000 ∧ Q (.bl (Si59.maybe k t p)) H
abbrev nTPF : List Str := ["tree", "point", "factor"]
theorem scSurely : FnScope nTPF nTPF (defScope sSurely) := ⟨rfl, rfl, rfl, by decide +kernel, rfl, by decide +kernel, by decide +kernel⟩
theorem scPerhaps : FnScope nTPF nTPF (defScope sPerhaps) := ⟨rfl, rfl, rfl, by decide +kernel, rfl, by decide +kernel, by decide +kernel⟩
abbrev CSquare (P : Program) (w : World) (K : PySem.W.Frag) (mg : Str → Option Value) (base : Heap) : Prop := Callee P w K mg base 1 "square_of_distance" ["one", "other"] spSquare
abbrev CWide (P : Program) (w : World) (K : PySem.W.Frag) (mg : Str → Option Value) (base : Heap) : Prop := Callee P w K mg base 1 "is_wide_enough" ["thickness", "square", "factor"] spWide
theorem ok_surely {f : Addr} {fd : FuncData} (F : Fun K "is_surely_counted" "is_surely_counted" sSurely f fd) (T : Txt K mg CT CW) (c1 : CSquare P w K mg base) (c2 : CWide P w K mg base) :
    FnOk P w K mg base CX0 2 f fd nTPF (spSurely CT) := by
  refine F.ok scSurely (fun vs H Q E h => ?_) (fun cdv A outer s H vs Q E hr h => ⟨_,
    pss_one (ps_ret (pe_by c2 hr (by rfl) (pa_cons (pe_fld (pv 0) rfl) (pa_cons (pe_by c1 hr (by rfl) (pa_cons (pe_fld (pv 0) rfl) (pa_cons (pv 1) pa_nil))) (pa_cons (pv 2) pa_nil))))), ?_⟩)
  · obtain ⟨a, b, t, p, k, rfl, _⟩ := h
    rfl
  · obtain ⟨a, b, t, p, k, rfl, ⟨dx, q, ht, hq⟩, hp, gt, gp, hk, k⟩ := h
    obtain ⟨g1, g2, g3, g4⟩ := id gt
    refine ⟨_, rfl, a, CT, dx, _, _, rfl, ht, T.ct, T.nLow, tF_low q t, _, rfl, a, CT, dx, _, _, rfl, ht, T.ct, T.nPlace, tF_place q t, _, rfl, ?_⟩
    refine ⟨q, b, (t.x, t.y), p, rfl, hq, hp, ⟨g1, g2⟩, gp, _, rfl, _, _, _, rfl, ⟨by omega, by omega⟩, ⟨by omega, by omega⟩, ?_⟩
    rw [sure_is g4]
    exact k
theorem ok_perhaps {f : Addr} {fd : FuncData} (F : Fun K "is_perhaps_counted" "is_perhaps_counted" sPerhaps f fd) (T : Txt K mg CT CW) (c1 : CSquare P w K mg base) (c2 : CWide P w K mg base) :
    FnOk P w K mg base CX0 2 f fd nTPF (spPerhaps CT) := by
  refine F.ok scPerhaps (fun vs H Q E h => ?_) (fun cdv A outer s H vs Q E hr h => ⟨_,
    pss_one (ps_ret (pe_by c2 hr (by rfl) (pa_cons (pe_fld (pv 0) rfl) (pa_cons (pe_by c1 hr (by rfl) (pa_cons (pe_fld (pv 0) rfl) (pa_cons (pv 1) pa_nil))) (pa_cons (pv 2) pa_nil))))), ?_⟩)
  · obtain ⟨a, b, t, p, k, rfl, _⟩ := h
    rfl
  · obtain ⟨a, b, t, p, k, rfl, ⟨dx, q, ht, hq⟩, hp, gt, gp, hk, k⟩ := h
    obtain ⟨g1, g2, g3, g4⟩ := id gt
    refine ⟨_, rfl, a, CT, dx, _, _, rfl, ht, T.ct, T.nHigh, tF_high q t, _, rfl, a, CT, dx, _, _, rfl, ht, T.ct, T.nPlace, tF_place q t, _, rfl, ?_⟩
    refine ⟨q, b, (t.x, t.y), p, rfl, hq, hp, ⟨g1, g2⟩, gp, _, rfl, _, _, _, rfl, ⟨by omega, by omega⟩, ⟨by omega, by omega⟩, ?_⟩
    rw [maybe_is]
    exact k

/-! ### greatest_factor -/
def spGreatest (CT : Addr) : Sp := fun vs H Q _ => ∃ (a b : Addr) (t : Si59.Tree) (p : Nat × Nat), vs = [.ref a, .ref b] ∧ TreeAt CT H a t ∧ PtAt H b p ∧ GoodT t ∧ GoodP p ∧ Q (vn (gf t p)) H
theorem scGreatest : FnScope ["tree", "point", "square"] ["tree", "point"] (defScope sGreatest) := ⟨rfl, rfl, rfl, by decide +kernel, rfl, by decide +kernel, by decide +kernel⟩
theorem ok_greatest {f : Addr} {fd : FuncData} (F : Fun K "greatest_factor" "greatest_factor" sGreatest f fd) (T : Txt K mg CT CW) (c1 : CSquare P w K mg base) :
    FnOk P w K mg base CX0 2 f fd ["tree", "point"] (spGreatest CT) := by
  refine F.ok scGreatest (fun vs H Q E h => ?_) (fun cdv A outer s H vs Q E hr h => ⟨_,
    pss_cons (ps_set (i := 2) scGreatest.nd rfl (Or.inl rfl) (pe_by c1 hr (by rfl) (pa_cons (pe_fld (pv 0) rfl) (pa_cons (pv 1) pa_nil))))
      (pss_cons (ps_if (pt_cmpR op_eq (pv 2) pe_int (nomark _)) (pss_one (ps_ret (pe_const T.cFactor (by rfl)))) pss_nil)
      (pss_one (ps_ret (pe_callB (call_min2 rfl) (by rfl) T.min (by decide +kernel) (pa_cons (pe_const T.cFactor (by rfl))
        (pa_cons (pe_op op_fdiv (pe_op op_mul (pe_op op_mul pe_int (pe_fld (pv 0) rfl)) (pe_fld (pv 0) rfl)) (pe_op op_mul pe_int (pv 2))) pa_nil)))))), ?_⟩)
  · obtain ⟨a, b, t, p, rfl, _⟩ := h
    rfl
  · obtain ⟨a, b, t, p, rfl, ⟨dx, q, ht, hq⟩, hp, gt, gp, k⟩ := h
    obtain ⟨g1, g2, g3, g4⟩ := id gt
    have fl := far_le (t := t) (p := p) g1 g2 gp.1 gp.2
    refine ⟨_, rfl, a, CT, dx, _, _, rfl, ht, T.ct, T.nPlace, tF_place q t, _, rfl, q, b, (t.x, t.y), p, rfl, hq, hp, ⟨g1, g2⟩, gp, ?_⟩
    rw [sqI_self]
    refine ⟨_, rfl, rfl, _, rfl, ?_⟩
    unfold gf at k
    by_cases e : Si59.far t p = 0
    · rw [e, if_pos rfl] at k
      rw [e]
      exact iteT k
    · have hn : ¬ (V.int ((Si59.far t p : Nat) : Int) = V.int 0) := fun z => e (by have := V.int.inj z; omega)
      rw [decide_eq_false hn]
      rw [if_neg e] at k
      refine iteF ⟨_, rfl, a, CT, dx, _, _, rfl, ht, T.ct, T.nLow, tF_low q t, _, _, rfl, rfl, Or.inl ⟨by decide, by decide⟩, _, rfl, a, CT, dx, _, _, rfl, ht, T.ct, T.nLow, tF_low q t, _, _, rfl, rfl, Or.inl ⟨by omega, by omega⟩, ?_⟩
      refine ⟨_, rfl, _, _, rfl, rfl, Or.inl ⟨by decide, by decide⟩, _, _, rfl, rfl, ⟨by omega, by omega⟩, _, _, rfl, ?_⟩
      have e1 : (100 * ((t.thick : Int) - t.wrong) * ((t.thick : Int) - t.wrong)) / (4 * ((Si59.far t p : Nat) : Int)) = ((100 * (t.thick - t.wrong) * (t.thick - t.wrong) / (4 * Si59.far t p) : Nat) : Int) := by
        have e2 : ((t.thick : Int) - t.wrong) = ((t.thick - t.wrong : Nat) : Int) := by omega
        rw [e2]
        rfl
      rw [e1]
      generalize 100 * (t.thick - t.wrong) * (t.thick - t.wrong) / (4 * Si59.far t p) = m at k ⊢
      have e3 : V.int (if ((m : Nat) : Int) < 1000 then ((m : Nat) : Int) else 1000) = vn (min 1000 m) := by
        unfold vn
        congr 1
        split <;> omega
      rw [e3]
      exact k

/-! ### sure_ones, possible_ones -/
def spSureOnes (CT : Addr) : Sp := fun vs H Q _ => ∃ (l b : Addr) (ts : List Si59.Tree) (p : Nat × Nat) (k : Nat), vs = [.ref l, .ref b, vn k] ∧ RefsAt (TreeAt CT) H l ts ∧ PtAt H b p ∧ (∀ t ∈ ts, GoodT t) ∧ ts.length ≤ 12 ∧ GoodP p ∧ k ≤ 1000 ∧
  ∀ (H' : Hp) (D : Addr), Same H H' → H D = none → NatsAt H' D (sureL ts p k) → Q (.ref D) H'
def spPossOnes (CT : Addr) : Sp := fun vs H Q _ => ∃ (l b : Addr) (ts : List Si59.Tree) (p : Nat × Nat) (k : Nat), vs = [.ref l, .ref b, vn k] ∧ RefsAt (TreeAt CT) H l ts ∧ PtAt H b p ∧ (∀ t ∈ ts, GoodT t) ∧ ts.length ≤ 12 ∧ GoodP p ∧ k ≤ 1000 ∧
  ∀ (H' : Hp) (D : Addr), Same H H' → H D = none → NatsAt H' D (maybeL ts p k) → Q (.ref D) H'
abbrev nOnes : List Str := ["trees", "point", "factor", "number", "tree"]
abbrev pOnes : List Str := ["trees", "point", "factor"]
theorem scSureOnes : FnScope nOnes pOnes (defScope sSureOnes) := ⟨rfl, rfl, rfl, by decide +kernel, rfl, by decide +kernel, by decide +kernel⟩
theorem scPossOnes : FnScope nOnes pOnes (defScope sPossOnes) := ⟨rfl, rfl, rfl, by decide +kernel, rfl, by decide +kernel, by decide +kernel⟩
theorem filter_len12 {f : Nat → Bool} {i n : Nat} (hi : i ≤ n) (hn : n ≤ 12) : (((List.range i).filter f).map vn).length < sizeLine := by
  rw [List.length_map]
  refine small (m := 12) (Nat.le_trans (List.length_filter_le _ _) ?_) (by decide)
  rw [List.length_range]
  omega
theorem ok_sureones {f : Addr} {fd : FuncData} (F : Fun K "sure_ones" "sure_ones" sSureOnes f fd) (T : Txt K mg CT CW) (c : Callee P w K mg base 2 "is_surely_counted" nTPF (spSurely CT)) :
    FnOk P w K mg base CX0 3 f fd pOnes (spSureOnes CT) := by
  refine F.ok scSureOnes (fun vs H Q E h => ?_) (fun cdv A outer s H vs Q E hr h => ⟨_,
    pss_one (ps_ret (pe_lc (own := [("number", 3), ("tree", 4)]) (g := gTup K 2 (gCons (gName 3) (gCons (gName 4) gNil))) rfl scSureOnes.nd (pi_enum (by rfl) T.enumerate (pa_cons (pv 0) pa_nil)) (blkOk_by (N := nOnes) (sc := defScope sSureOnes) (by decide +kernel))
      (fun _ _ _ _ _ => pg_tup (n := 2) rfl (pgs_cons (pg_name (i := 3) scSureOnes.nd rfl (Or.inl rfl) (Or.inr rfl)) (pgs_cons (pg_name (i := 4) scSureOnes.nd rfl (Or.inl rfl) (Or.inr rfl)) pgs_nil)))
      (fun _ _ _ _ _ => pts_one (pt_val (pe_by c hr (by rfl) (pa_cons (pv 4) (pa_cons (pv 1) (pa_cons (pv 2) pa_nil))))))
      (fun _ _ _ _ _ => pv 3))), ?_⟩)
  · obtain ⟨l, b, ts, p, k, rfl, _⟩ := h
    rfl
  · obtain ⟨l, b, ts, p, k, rfl, ⟨rs, hl, ha⟩, hb, gt, hlen, gp, hk, kk⟩ := h
    have hrs := ha.length
    refine ⟨_, rfl, l, rs.map V.ref, rfl, SqL.of hl, fun D hD => lc_it (walk_enum (K := K) (a := l) (xs := rs.map V.ref))
      (fun i H' => Acc H D (((List.range i).filter fun j => Si59.sure k (ts.getD j noTree) p).map vn) H') (Acc.start hD) (fun i H' _ a => SqL.of (a.2 _ _ hl)) ?_ ?_⟩
    · rintro i x H2 H3 hi a ⟨Tp, x1, y, rfl, hT, rfl, e1, e2⟩
      cases e1
      obtain ⟨r, hr1, rfl⟩ := map_ref_get e2
      obtain ⟨t, ht, td⟩ := ha.get hr1
      have s3 : Same H2 (upd H2 Tp (.tup [.int (i : Nat), .ref r])) := same_upd hT
      have gm : t ∈ ts := List.mem_of_getElem? ht
      have e3 : ts.getD i noTree = t := by rw [List.getD_eq_getElem?_getD, ht]; rfl
      rw [List.length_map, hrs] at hi
      refine ⟨Tp, _, rfl, SqT.of upd_same, rfl, _, _, rfl, _, _, rfl, rfl, rfl, ?_⟩
      refine ⟨_, rfl, _, rfl, _, rfl, r, b, t, p, k, rfl, keeps_tree _ _ _ _ (a.2.trans s3) td, keeps_pt _ _ _ _ (a.2.trans s3) hb, gt t gm, gp, hk, _, rfl, ?_⟩
      rw [filter_range_succ, e3]
      cases hc : Si59.sure k t p with
      | true =>
        refine iteT ⟨_, rfl, ?_⟩
        rw [if_pos rfl, List.map_append]
        exact a.push hD s3 _ (filter_len12 (Nat.le_of_lt hi) hlen)
      | false =>
        refine iteF ?_
        rw [if_neg Bool.false_ne_true, List.append_nil]
        exact a.skip s3
    · intro H2 a
      rw [List.length_map, hrs] at a
      exact kk H2 D a.2 hD a.1
theorem ok_possones {f : Addr} {fd : FuncData} (F : Fun K "possible_ones" "possible_ones" sPossOnes f fd) (T : Txt K mg CT CW) (c : Callee P w K mg base 2 "is_perhaps_counted" nTPF (spPerhaps CT)) :
    FnOk P w K mg base CX0 3 f fd pOnes (spPossOnes CT) := by
  refine F.ok scPossOnes (fun vs H Q E h => ?_) (fun cdv A outer s H vs Q E hr h => ⟨_,
    pss_one (ps_ret (pe_lc (own := [("number", 3), ("tree", 4)]) (g := gTup K 2 (gCons (gName 3) (gCons (gName 4) gNil))) rfl scPossOnes.nd (pi_enum (by rfl) T.enumerate (pa_cons (pv 0) pa_nil)) (blkOk_by (N := nOnes) (sc := defScope sPossOnes) (by decide +kernel))
      (fun _ _ _ _ _ => pg_tup (n := 2) rfl (pgs_cons (pg_name (i := 3) scPossOnes.nd rfl (Or.inl rfl) (Or.inr rfl)) (pgs_cons (pg_name (i := 4) scPossOnes.nd rfl (Or.inl rfl) (Or.inr rfl)) pgs_nil)))
      (fun _ _ _ _ _ => pts_one (pt_val (pe_by c hr (by rfl) (pa_cons (pv 4) (pa_cons (pv 1) (pa_cons (pv 2) pa_nil))))))
      (fun _ _ _ _ _ => pv 3))), ?_⟩)
  · obtain ⟨l, b, ts, p, k, rfl, _⟩ := h
    rfl
  · obtain ⟨l, b, ts, p, k, rfl, ⟨rs, hl, ha⟩, hb, gt, hlen, gp, hk, kk⟩ := h
    have hrs := ha.length
    refine ⟨_, rfl, l, rs.map V.ref, rfl, SqL.of hl, fun D hD => lc_it (walk_enum (K := K) (a := l) (xs := rs.map V.ref))
      (fun i H' => Acc H D (((List.range i).filter fun j => Si59.maybe k (ts.getD j noTree) p).map vn) H') (Acc.start hD) (fun i H' _ a => SqL.of (a.2 _ _ hl)) ?_ ?_⟩
    · rintro i x H2 H3 hi a ⟨Tp, x1, y, rfl, hT, rfl, e1, e2⟩
      cases e1
      obtain ⟨r, hr1, rfl⟩ := map_ref_get e2
      obtain ⟨t, ht, td⟩ := ha.get hr1
      have s3 : Same H2 (upd H2 Tp (.tup [.int (i : Nat), .ref r])) := same_upd hT
      have gm : t ∈ ts := List.mem_of_getElem? ht
      have e3 : ts.getD i noTree = t := by rw [List.getD_eq_getElem?_getD, ht]; rfl
      rw [List.length_map, hrs] at hi
      refine ⟨Tp, _, rfl, SqT.of upd_same, rfl, _, _, rfl, _, _, rfl, rfl, rfl, ?_⟩
      refine ⟨_, rfl, _, rfl, _, rfl, r, b, t, p, k, rfl, keeps_tree _ _ _ _ (a.2.trans s3) td, keeps_pt _ _ _ _ (a.2.trans s3) hb, gt t gm, gp, hk, _, rfl, ?_⟩
      rw [filter_range_succ, e3]
      cases hc : Si59.maybe k t p with
      | true =>
        refine iteT ⟨_, rfl, ?_⟩
        rw [if_pos rfl, List.map_append]
        exact a.push hD s3 _ (filter_len12 (Nat.le_of_lt hi) hlen)
      | false =>
        refine iteF ?_
        rw [if_neg Bool.false_ne_true, List.append_nil]
        exact a.skip s3
    · intro H2 a
      rw [List.length_map, hrs] at a
      exact kk H2 D a.2 hD a.1

/-! ### is_place, is_factor -/
abbrev CFromTo (P : Program) (w : World) (K : PySem.W.Frag) (mg : Str → Option Value) (base : Heap) : Prop := Callee P w K mg base 1 "is_from_to" ["number", "least", "most"] spFromTo
def spIsPlace : Sp := fun vs H Q _ => ∃ x y : Nat, vs = [vn x, vn y] ∧ Q (.bl (decide (x ≤ 2000) && decide (y ≤ 2000))) H
theorem scIsPlace : FnScope ["x", "y"] ["x", "y"] (defScope sIsPlace) := ⟨rfl, rfl, rfl, by decide +kernel, rfl, by decide +kernel, by decide +kernel⟩
theorem from0 (x m : Nat) : (decide ((0 : Int) ≤ (x : Nat)) && decide (((x : Nat) : Int) ≤ (m : Nat))) = decide (x ≤ m) := by
  rw [decide_eq_true (Int.natCast_nonneg x), Bool.true_and]
  exact decide_eq_decide.mpr (by omega)
theorem ok_isplace {f : Addr} {fd : FuncData} (F : Fun K "is_place" "is_place" sIsPlace f fd) (T : Txt K mg CT CW) (c : CFromTo P w K mg base) : FnOk P w K mg base CX0 2 f fd ["x", "y"] spIsPlace := by
  refine F.ok scIsPlace (fun vs H Q E h => ?_) (fun cdv A outer s H vs Q E hr h => ⟨_,
    pss_one (ps_ret (pe_and (pe_by c hr (by rfl) (pa_cons (pv 0) (pa_cons pe_int (pa_cons (pe_const T.cPlace (by rfl)) pa_nil)))) (pe_one (pe_by c hr (by rfl) (pa_cons (pv 1) (pa_cons pe_int (pa_cons (pe_const T.cPlace (by rfl)) pa_nil))))))), ?_⟩)
  · obtain ⟨x, y, rfl, _⟩ := h
    rfl
  · obtain ⟨x, y, rfl, q⟩ := h
    refine ⟨_, rfl, _, _, _, rfl, ?_⟩
    rw [show (2000 : Int) = ((2000 : Nat) : Int) from rfl, from0]
    refine ⟨_, rfl, ?_⟩
    cases hx : decide (x ≤ 2000) with
    | true =>
      refine iteT ⟨_, rfl, _, _, _, rfl, ?_⟩
      rw [from0]
      rw [hx, Bool.true_and] at q
      exact q
    | false =>
      rw [hx, Bool.false_and] at q
      exact iteF q
def spIsFactor : Sp := fun vs H Q _ => ∃ k : Nat, vs = [vn k] ∧ Q (.bl (Si59.factor k)) H
theorem scIsFactor : FnScope ["k"] ["k"] (defScope sIsFactor) := ⟨rfl, rfl, rfl, by decide +kernel, rfl, by decide +kernel, by decide +kernel⟩
theorem ok_isfactor {f : Addr} {fd : FuncData} (F : Fun K "is_factor" "is_factor" sIsFactor f fd) (T : Txt K mg CT CW) (c : CFromTo P w K mg base) : FnOk P w K mg base CX0 2 f fd ["k"] spIsFactor := by
  refine F.ok scIsFactor (fun vs H Q E h => ?_) (fun cdv A outer s H vs Q E hr h => ⟨_,
    pss_one (ps_ret (pe_by c hr (by rfl) (pa_cons (pv 0) (pa_cons pe_int (pa_cons (pe_const T.cFactor (by rfl)) pa_nil))))), ?_⟩)
  · obtain ⟨x, rfl, _⟩ := h
    rfl
  · obtain ⟨k, rfl, q⟩ := h
    refine ⟨_, rfl, _, _, _, rfl, ?_⟩
    have e : (decide ((1 : Int) ≤ (k : Nat)) && decide (((k : Nat) : Int) ≤ 1000)) = Si59.factor k := by
      unfold Si59.factor Si59.FACTOR
      congr 1 <;> exact decide_eq_decide.mpr (by omega)
    rw [e]
    exact q
end
end My

set_option Elab.async false
set_option maxRecDepth 100000
set_option maxHeartbeats 4000000
/-! # The walk, part 3: choices of points -/
namespace My
open PySem PySem.Spec PyProof.Rows L2

/-! ### a new list of lists that grows -/
def AccL (H1 : Hp) (D : Addr) (xs : List (List Nat)) (H : Hp) : Prop := ∃ rs : List Addr, Acc H1 D (rs.map V.ref) H ∧ All2 (fun r x => r ≠ D ∧ NatsAt H r x) rs xs
section
variable {H1 H H' : Hp} {D : Addr} {xs : List (List Nat)}
theorem AccL.start (hD : H1 D = none) : AccL H1 D [] (upd H1 D (.lst [])) := ⟨[], Acc.start hD, .nil⟩
theorem AccL.skip (a : AccL H1 D xs H) (s : Same H H') : AccL H1 D xs H' := by
  obtain ⟨rs, b, c⟩ := a
  exact ⟨rs, b.skip s, c.mono fun r x q => ⟨q.1, s _ _ q.2⟩⟩
theorem AccL.push (hD : H1 D = none) (a : AccL H1 D xs H) (s : Same H H') {r : Addr} {x : List Nat} (hr : r ≠ D) (h : NatsAt H' r x) (hz : xs.length < sizeLine) :
    ∃ acc, H' D = some (.lst acc) ∧ acc.length < sizeLine ∧ AccL H1 D (xs ++ [x]) (upd H' D (.lst (acc ++ [.ref r]))) := by
  obtain ⟨rs, b, c⟩ := a
  have hl := c.length
  obtain ⟨acc, e1, e2, e3⟩ := b.push hD s (.ref r) (by rw [List.length_map, hl]; exact hz)
  refine ⟨acc, e1, e2, rs ++ [r], ?_, All2.app (c.mono fun r' x' q => ⟨q.1, (upd_ne q.1).trans (s _ _ q.2)⟩) (.cons ⟨hr, (upd_ne hr).trans h⟩ .nil)⟩
  rw [List.map_append]
  exact e3
theorem AccL.refs (a : AccL H1 D xs H) : RefsAt NatsAt H D xs := by
  obtain ⟨rs, b, c⟩ := a
  exact ⟨rs, b.1, c.mono fun r x q => q.2⟩
theorem AccL.same (a : AccL H1 D xs H) : Same H1 H := by
  obtain ⟨rs, b, c⟩ := a
  exact b.2
end
/-- one item more -/
theorem take_more {α : Type} : ∀ {l : List α} {i : Nat} {x : α}, l[i]? = some x → l.take (i + 1) = l.take i ++ [x]
  | [], i, x, h => by simp at h
  | a :: l, 0, x, h => by
    have e : a = x := Option.some.inj h
    subst e
    rfl
  | a :: l, i + 1, x, h => by
    have ih := take_more (l := l) (i := i) (x := x) h
    show a :: l.take (i + 1) = a :: l.take i ++ [x]
    rw [ih]
    rfl
theorem take_le {α : Type} (l : List α) (i : Nat) : (l.take i).length ≤ l.length := by
  rw [List.length_take]
  omega
theorem lt_of_get {α : Type} {l : List α} {i : Nat} {x : α} (h : l[i]? = some x) : i < l.length := by
  obtain ⟨q, _⟩ := List.getElem?_eq_some_iff.mp h
  exact q
theorem cutV_one (xs : List V) : cutV xs (some 1) none = xs.drop 1 := by
  unfold cutV
  rw [HT.sIx_none, show (1 : Int) = ((1 : Nat) : Int) from rfl, HT.sIx_nat]
  cases xs with
  | nil => rfl
  | cons a r =>
    have e : min 1 (a :: r).length = 1 := by
      rw [List.length_cons]
      omega
    rw [e]
    show r.take (r.length + 1 - 1) = r
    rw [Nat.add_sub_cancel, List.take_length]

section
variable {P : Program} {w : World} {K : PySem.W.Frag} {mg : Str → Option Value} {base : Heap} {CT CW : Addr}
/-! ### choices_of -/
def spChoices : Sp := fun vs H Q _ => ∃ n : Nat, vs = [vn n] ∧ n ≤ 8 ∧ ∀ (H' : Hp) (D : Addr), Same H H' → H D = none → RefsAt NatsAt H' D (Si59.among 0 n) → Q (.ref D) H'
abbrev nChoices : List Str := ["many", "found", "number", "choice"]
theorem scChoices : FnScope nChoices ["many"] (defScope sChoices) := ⟨rfl, rfl, rfl, by decide +kernel, rfl, by decide +kernel, by decide +kernel⟩
theorem among_small {a n : Nat} (h : n ≤ 8) : (Si59.among a n).length ≤ 256 := by
  rw [among_len]
  exact Nat.pow_le_pow_right (by decide) h
theorem ok_choices {f : Addr} {fd : FuncData} (F : Fun K "choices_of" "choices_of" sChoices f fd) (T : Txt K mg CT CW) : FnOk P w K mg base CX0 1 f fd ["many"] spChoices := by
  refine F.ok scChoices (fun vs H Q E h => ?_) (fun cdv A outer s H vs Q E hr h => ⟨_,
    pss_cons (ps_set (i := 1) scChoices.nd rfl (Or.inl rfl) (pe_lst (pa_cons (pe_lst pa_nil) pa_nil)))
      (pss_cons (ps_for PassesOwn.never rfl (pi_revR (by rfl) T.reversed (prg_1 (by rfl) T.range (pv 0))) (pg_name (i := 2) scChoices.nd rfl (Or.inr rfl))
        (pss_one (ps_set (i := 1) scChoices.nd rfl (Or.inl rfl) (pe_op op_cat (pe_op op_cat (pe_lst (pa_cons (pe_lst pa_nil) pa_nil))
          (pe_lc (own := [("choice", 3)]) (g := gName 3) rfl scChoices.nd (pi_list (pv 1)) (blkOk_by (N := nChoices) (sc := defScope sChoices) (by decide +kernel))
            (fun _ _ _ _ _ => pg_name (i := 3) scChoices.nd rfl (Or.inl rfl)) (fun _ _ _ _ _ => pts_nil)
            (fun _ _ _ _ _ => pe_op op_cat (pe_lst (pa_cons (pv 2) pa_nil)) (pv 3))))
          (pe_slice sl_list (pv 1) (po_some pe_int) po_none)))))
      (pss_one (ps_ret (pv 1)))), ?_⟩)
  · obtain ⟨n, rfl, _⟩ := h
    rfl
  · obtain ⟨n, rfl, hn, k⟩ := h
    refine ⟨by decide, fun e0 he0 => ⟨(by show 1 ≤ sizeLine; decide), fun l0 hl0 => ?_⟩⟩
    have ne0 : e0 ≠ l0 := ne_of_none upd_same hl0
    refine ⟨_, rfl, _, rfl, by decide, by decide, by omega, by omega, ?_⟩
    have en : (((n : Nat) : Int) - 0).toNat = n := by omega
    rw [en]
    refine for_it (walk_rangeC) (fun i σ H' => ∃ (l : Addr) (v2 : Option V), σ = [some (vn n), some (.ref l), v2, none] ∧ Same H H' ∧ H l = none ∧ RefsAt NatsAt H' l (Si59.among (n - i) i))
      ⟨l0, none, rfl, same_new (same_upd he0) ?_, ?_, [e0], upd_same, .cons ?_ .nil⟩ (fun _ _ _ _ _ => trivial) ?_ ?_
    · exact (same_upd he0).free hl0
    · exact (same_upd he0).free hl0
    · exact (upd_ne ne0).trans upd_same
    · rintro i x σ H2 H3 hi ⟨l, v2, rfl, s2, hl, hR⟩ ⟨rfl, hx⟩
      have ex : x = vn (n - (i + 1)) := by
        rw [hx]
        unfold vn
        show V.int (0 + ((n : Nat) : Int) - 1 + ((i : Nat) : Int) * -1) = _
        congr 1
        omega
      subst ex
      clear hx
      have e8 : n - (i + 1) + 1 = n - i := by omega
      generalize hgm : n - (i + 1) = m at *
      rw [← e8] at hR
      have hsm : (Si59.among (m + 1) i).length ≤ 256 := among_small (by omega)
      generalize hcs : Si59.among (m + 1) i = cs at *
      refine ⟨by decide, fun e1 he1 => ⟨(by show 1 ≤ sizeLine; decide), fun l1 hl1 => ?_⟩⟩
      have ne1 : e1 ≠ l1 := ne_of_none upd_same hl1
      -- H4: with [[]]
      generalize hH4 : upd (upd H3 e1 (.lst [])) l1 (.lst [.ref e1]) = H4
      have s4 : Same H3 H4 := by
        rw [← hH4]
        exact same_new (same_upd he1) ((same_upd he1).free hl1)
      have e1at : NatsAt H4 e1 [] := by
        rw [← hH4]
        exact (upd_ne ne1).trans upd_same
      have l1at : H4 l1 = some (.lst [.ref e1]) := by
        rw [← hH4]
        exact upd_same
      have hl1n : H l1 = none := (s2.trans (same_upd he1)).free hl1
      have hR4 := hR.keep keeps_nats s4
      obtain ⟨rs, hrs, ha⟩ := id hR4
      have hlen := ha.length
      refine ⟨_, rfl, l, rfl, ⟨_, SqL.of hrs⟩, fun D hD => lc_it (walk_list (K := K) (a := l) (xs := rs.map V.ref)) (fun j H5 => AccL H4 D ((cs.take j).map fun c => [m] ++ c) H5) (AccL.start hD)
        (fun j H5 _ a => SqL.of (a.same _ _ hrs)) ?_ ?_⟩
      · rintro j x H5 H6 hj a ⟨rfl, hx⟩
        obtain ⟨r, hr1, rfl⟩ := map_ref_get hx
        obtain ⟨c, hc, hrc⟩ := ha.get hr1
        refine ⟨rfl, _, rfl, (by show 1 ≤ sizeLine; decide), fun p1 hp1 => ⟨_, rfl, ?_⟩⟩
        have s6 : Same H6 (upd H6 p1 (.lst [vn m])) := same_upd hp1
        have hrc6 : upd H6 p1 (.lst [vn m]) r = some (.lst (c.map vn)) := s6 _ _ (a.same _ _ hrc)
        have hcl : c.length ≤ 8 := by
          have cm : c ∈ Si59.among (m + 1) i := by
            rw [hcs]
            exact List.mem_of_getElem? hc
          obtain ⟨q1, q2⟩ := among_mem i (m + 1) c cm
          have := below_len (rise_nodup q2) (n := m + 1 + i) fun x hx => (q1 x hx).2
          omega
        refine ⟨p1, r, [vn m], c.map vn, rfl, rfl, upd_same, hrc6, ?_, fun p2 hp2 => ?_⟩
        · rw [List.length_map]
          exact Nat.le_of_lt (small (m := 9) (by simp; omega) (by decide))
        · have dD : H6 D ≠ none := by
            obtain ⟨_, b, _⟩ := a
            rw [b.1]
            exact fun z => by cases z
          have s7 : Same H6 (upd (upd H6 p1 (.lst [vn m])) p2 (.lst ([vn m] ++ c.map vn))) := s6.trans (same_upd hp2)
          rw [take_more hc, List.map_append]
          refine a.push hD s7 (r := p2) (fun z => ?_) (x := [m] ++ c) ?_ ?_
          · subst z
            exact dD (s6.free hp2)
          · unfold NatsAt
            rw [List.map_append]
            exact upd_same
          · rw [List.length_map]
            exact small (m := 256) (Nat.le_trans (take_le _ _) (by omega)) (by decide)
      · intro H5 a
        rw [List.length_map, hlen, List.take_length] at a
        have hD5 := a.refs
        obtain ⟨rs2, hrs2, ha2⟩ := id hD5
        have hlen2 := ha2.length
        rw [List.length_map] at hlen2
        have s5 : Same H4 H5 := a.same
        refine ⟨l1, D, [.ref e1], rs2.map V.ref, rfl, rfl, s5 _ _ l1at, hrs2, ?_, fun p3 hp3 => ?_⟩
        · rw [List.length_map, hlen2]
          exact Nat.le_of_lt (small (m := 257) (by simp; omega) (by decide))
        · have s6 : Same H5 (upd H5 p3 (.lst ([.ref e1] ++ rs2.map V.ref))) := same_upd hp3
          refine ⟨_, rfl, _, rfl, l, rs.map V.ref, rfl, SqL.of (s6 _ _ (s5 _ _ hrs)), fun p4 hp4 => ?_⟩
          rw [cutV_one]
          have s7 := same_upd (o := .lst ((rs.map V.ref).drop 1)) hp4
          refine ⟨p3, p4, _, _, rfl, rfl, s7 _ _ upd_same, upd_same, ?_, fun p5 hp5 => ?_⟩
          · simp only [List.length_append, List.length_map, List.length_drop, List.length_cons, List.length_nil, hlen2, hlen]
            exact Nat.le_of_lt (small (m := 513) (by omega) (by decide))
          · have s8 := same_upd (o := .lst ([V.ref e1] ++ rs2.map V.ref ++ (rs.map V.ref).drop 1)) hp5
            have s58 : Same H5 _ := (s6.trans s7).trans s8
            refine ⟨p5, some (vn m), rfl, (s2.trans (s4.trans s5)).trans s58, ?_, [e1] ++ rs2 ++ rs.drop 1, ?_, ?_⟩
            · exact ((s2.trans (s4.trans s5)).trans (s6.trans s7)).free hp5
            · rw [upd_same, List.map_append, List.map_append, List.map_drop]
              rfl
            · rw [among_succ, hcs]
              refine ((All2.cons (s58 _ _ (s5 _ _ e1at)) .nil).app ?_).app (All2.drop 1 ?_)
              · exact ha2.mono fun r x q => s58 _ _ q
              · exact ha.mono fun r x q => s58 _ _ (s5 _ _ q)
    · rintro σ H2 ⟨l, v2, rfl, s2, hl, hR⟩
      refine ⟨_, rfl, k H2 l s2 hl ?_⟩
      rw [Nat.sub_self] at hR
      exact hR

/-! ### are_all_in, is_none_twice: a dict whose keys are the trees seen -/
def kvsOf (l : List Nat) : List (Key × V) := l.map fun n => ((Sum.inl ((n : Nat) : Int) : Key), V.bl true)
theorem kvsOf_len (l : List Nat) : (kvsOf l).length = l.length := List.length_map _
theorem kvsOf_any (l : List Nat) (x : Nat) : ((kvsOf l).any fun kv => decide (kv.1 = (Sum.inl ((x : Nat) : Int) : Key))) = decide (x ∈ l) := by
  unfold kvsOf
  rw [List.any_map, Bool.eq_iff_iff, List.any_eq_true, decide_eq_true_iff]
  constructor
  · rintro ⟨n, hn, e⟩
    have e := of_decide_eq_true e
    have e2 : ((n : Nat) : Int) = x := Sum.inl.inj e
    have e3 : n = x := by omega
    rw [← e3]
    exact hn
  · intro h
    exact ⟨x, h, decide_eq_true rfl⟩
theorem kvsOf_put (l : List Nat) (x : Nat) : putK (kvsOf l) (Sum.inl ((x : Nat) : Int)) (V.bl true) = kvsOf (addK l x) := by
  unfold putK addK
  rw [kvsOf_any]
  by_cases h : x ∈ l
  · rw [if_pos (decide_eq_true h), if_pos h]
    unfold kvsOf
    rw [List.map_map]
    refine List.map_congr_left fun n _ => ?_
    show (if _ then _ else _ : Key × V) = _
    split <;> rfl
  · rw [if_neg (by rw [decide_eq_false h]; exact Bool.false_ne_true), if_neg h]
    unfold kvsOf
    rw [List.map_append]
    rfl
theorem kvsOf_val (l : List Nat) (x : Nat) : (valV (kvsOf l) (Sum.inl ((x : Nat) : Int))).isSome = decide (x ∈ l) := by
  rw [← valV_any, kvsOf_any]
theorem seenOf_app (seen : List (List Nat)) (a b : List Nat) : seenOf seen (a ++ b) = seenOf seen a ++ seenOf seen b := by
  unfold seenOf
  rw [List.flatMap_append]
theorem seenOf_one (seen : List (List Nat)) (p : Nat) : seenOf seen [p] = seen.getD p [] := by
  unfold seenOf
  rw [List.flatMap_cons, List.flatMap_nil, List.append_nil]
theorem seenOf_more {seen : List (List Nat)} {cs : List Nat} {i p : Nat} (h : cs[i]? = some p) : seenOf seen (cs.take (i + 1)) = seenOf seen (cs.take i) ++ seen.getD p [] := by
  rw [take_more h, seenOf_app, seenOf_one]
theorem getD_of {seen : List (List Nat)} {p : Nat} {l : List Nat} (h : seen[p]? = some l) : seen.getD p [] = l := by
  rw [List.getD_eq_getElem?_getD, h]
  rfl
theorem seenOf_below {seen : List (List Nat)} {cs : List Nat} {b : Nat} (h : ∀ l ∈ seen, ∀ x ∈ l, x < b) : ∀ x ∈ seenOf seen cs, x < b := fun x hx => by
  unfold seenOf at hx
  obtain ⟨p, _, hp⟩ := List.mem_flatMap.mp hx
  rw [List.getD_eq_getElem?_getD] at hp
  cases e : seen[p]? with
  | none =>
    rw [e] at hp
    cases hp
  | some l =>
    rw [e] at hp
    exact h l (List.mem_of_getElem? e) x hp
/-- a choice and what is seen from each point, in the heap -/
structure Seen (H : Hp) (c s : Addr) (cs : List Nat) (seen : List (List Nat)) : Prop where
  one : NatsAt H c cs
  all : RefsAt NatsAt H s seen
  low : ∀ p ∈ cs, p < seen.length
  below : ∀ l ∈ seen, ∀ x ∈ l, x < 12
def spAllIn : Sp := fun vs H Q _ => ∃ (c s : Addr) (n : Nat) (cs : List Nat) (seen : List (List Nat)), vs = [.ref c, .ref s, vn n] ∧ Seen H c s cs seen ∧ ∀ H' : Hp, Same H H' → Q (.bl (covers seen n cs)) H'
abbrev nAllIn : List Str := ["choice", "seen", "many", "there", "number", "tree"]
theorem scAllIn : FnScope nAllIn ["choice", "seen", "many"] (defScope sAllIn) := ⟨rfl, rfl, rfl, by decide +kernel, rfl, by decide +kernel, by decide +kernel⟩
theorem ok_allin {f : Addr} {fd : FuncData} (F : Fun K "are_all_in" "are_all_in" sAllIn f fd) (T : Txt K mg CT CW) : FnOk P w K mg base CX0 1 f fd ["choice", "seen", "many"] spAllIn := by
  refine F.ok scAllIn (fun vs H Q E h => ?_) (fun cdv A outer s H vs Q E hr h => ⟨_,
    pss_cons (ps_set (i := 3) scAllIn.nd rfl (Or.inl rfl) pe_dnewK)
      (pss_cons (ps_for PassesOwn.never rfl (pi_list (pv 0)) (pg_name (i := 4) scAllIn.nd rfl (Or.inl rfl))
        (pss_one (ps_for PassesOwn.never rfl (pi_list (pe_ix ix_list (pv 1) (pv 4) (fun _ _ => rfl))) (pg_name (i := 5) scAllIn.nd rfl (Or.inl rfl))
          (pss_one (ps_dput (hu_of hr) (pv 3) (pv 5) pe_bl rfl)))))
      (pss_one (ps_ret (pe_cmpR op_eq (pe_callB call_lenD (by rfl) T.len PySem.boot_len (pa_cons (pv 3) pa_nil)) (pv 2) (nomark _))))), ?_⟩)
  · obtain ⟨c, s, n, cs, seen, rfl, _⟩ := h
    rfl
  · obtain ⟨c, sa, n, cs, seen, rfl, S, k⟩ := h
    obtain ⟨hc, ⟨rs, hs, ha⟩, hlow, hbelow⟩ := S
    intro d hd
    have bound : ∀ l : List Nat, (∀ x ∈ l, x < 12) → (kvsOf (addAll [] l)).length < sizeLine := fun l hl => by
      rw [kvsOf_len]
      refine small (m := 12) (below_len (addAll_nodup .nil) fun x hx => ?_) (by decide)
      rcases addAll_mem.mp hx with z | z
      · cases z
      · exact hl x z
    refine ⟨_, rfl, c, rfl, ⟨_, SqL.of ((same_upd hd) _ _ hc)⟩, for_it (walk_list (K := K) (a := c) (xs := cs.map vn))
      (fun i σ H' => ∃ v4 v5 : Option V, σ = [some (.ref c), some (.ref sa), some (vn n), some (.ref d), v4, v5] ∧ Same H H' ∧ H' d = some (.dK (kvsOf (addAll [] (seenOf seen (cs.take i))))))
      ⟨none, none, rfl, same_upd hd, upd_same⟩ (fun i σ H' _ ⟨_, _, _, s2, _⟩ => SqL.of (s2 _ _ hc)) ?_ ?_⟩
    · rintro i x σ H2 H3 hi ⟨v4, v5, rfl, s2, hdd⟩ ⟨rfl, hx⟩
      obtain ⟨p, hp, rfl⟩ := map_vn_get hx
      have pl : p < seen.length := hlow p (List.mem_of_getElem? hp)
      have hsp : seen[p]? = some seen[p] := by simp [pl]
      generalize seen[p] = sl at hsp
      obtain ⟨r, hr1, hrl⟩ := ha.at hsp
      refine ⟨_, rfl, _, rfl, sa, rs.map V.ref, _, .ref r, rfl, rfl, SqL.of (s2 _ _ hs), atI_nat (by rw [List.getElem?_map, hr1]; rfl), ?_⟩
      refine ⟨r, rfl, ⟨_, SqL.of (s2 _ _ hrl)⟩, for_it (walk_list (K := K) (a := r) (xs := sl.map vn))
        (fun j σ H' => ∃ v5 : Option V, σ = [some (.ref c), some (.ref sa), some (vn n), some (.ref d), some (vn p), v5] ∧ Same H H' ∧ H' d = some (.dK (kvsOf (addAll [] (seenOf seen (cs.take i) ++ sl.take j)))))
        ⟨v5, rfl, s2, by rw [List.take_zero, List.append_nil]; exact hdd⟩ (fun j σ H' _ ⟨_, _, s3, _⟩ => SqL.of (s3 _ _ hrl)) ?_ ?_⟩
      · rintro j x σ H4 H5 hj ⟨w5, rfl, s4, hd4⟩ ⟨rfl, hx⟩
        obtain ⟨t, ht, rfl⟩ := map_vn_get hx
        have all : ∀ x ∈ seenOf seen (cs.take i) ++ sl.take j, x < 12 := fun x hx => by
          rcases List.mem_append.mp hx with z | z
          · exact seenOf_below hbelow x z
          · exact hbelow sl (List.mem_of_getElem? hsp) x (List.mem_of_mem_take z)
        refine ⟨_, rfl, _, rfl, d, _, rfl, DPut.k (k := Sum.inl ((t : Nat) : Int)) hd4 (bound _ all), some (vn t), rfl, same_new s4 hd, ?_⟩
        rw [upd_same, kvsOf_put, take_more ht, ← List.append_assoc, addAll_app _ _ [t]]
        rfl
      · rintro σ H4 ⟨w5, rfl, s4, hd4⟩
        rw [List.length_map, List.take_length] at hd4
        refine ⟨some (vn p), w5, rfl, s4, ?_⟩
        rw [seenOf_more hp, getD_of hsp]
        exact hd4
    · rintro σ H2 ⟨v4, v5, rfl, s2, hdd⟩
      rw [List.length_map, List.take_length] at hdd
      refine ⟨_, rfl, d, _, rfl, hdd, _, rfl, rfl, ?_⟩
      have e : decide (V.int (((kvsOf (addAll [] (seenOf seen cs))).length : Nat) : Int) = vn n) = covers seen n cs := by
        unfold covers vn
        rw [kvsOf_len]
        refine decide_eq_decide.mpr ⟨fun z => ?_, fun z => by rw [z]⟩
        have := V.int.inj z
        omega
      rw [e]
      exact k H2 s2
def spTwice : Sp := fun vs H Q _ => ∃ (c s : Addr) (cs : List Nat) (seen : List (List Nat)), vs = [.ref c, .ref s] ∧ Seen H c s cs seen ∧ ∀ H' : Hp, Same H H' → Q (.bl (noTwice seen cs)) H'
abbrev nTwice : List Str := ["choice", "seen", "there", "number", "tree"]
theorem scTwice : FnScope nTwice ["choice", "seen"] (defScope sTwice) := ⟨rfl, rfl, rfl, by decide +kernel, rfl, by decide +kernel, by decide +kernel⟩
theorem nodup_snoc {l : List Nat} {x : Nat} (h : l.Nodup) (hx : x ∉ l) : (l ++ [x]).Nodup := by
  have e : addK l x = l ++ [x] := if_neg hx
  rw [← e]
  exact addK_nodup h
theorem twice_no {l r : List Nat} {x : Nat} (hx : x ∈ l) : ¬ (l ++ x :: r).Nodup := fun h => (List.nodup_append.mp h).2.2 x hx x List.mem_cons_self rfl
theorem split_at {α : Type} {l : List α} {j : Nat} {x : α} (h : l[j]? = some x) : l = l.take j ++ x :: l.drop (j + 1) := by
  obtain ⟨q, e⟩ := List.getElem?_eq_some_iff.mp h
  rw [← e, ← List.drop_eq_getElem_cons q, List.take_append_drop]
theorem ok_twice {f : Addr} {fd : FuncData} (F : Fun K "is_none_twice" "is_none_twice" sTwice f fd) : FnOk P w K mg base CX0 1 f fd ["choice", "seen"] spTwice := by
  refine F.ok scTwice (fun vs H Q E h => ?_) (fun cdv A outer s H vs Q E hr h => ⟨_,
    pss_cons (ps_set (i := 2) scTwice.nd rfl (Or.inl rfl) pe_dnewK)
      (pss_cons (ps_for PassesOwn.never rfl (pi_list (pv 0)) (pg_name (i := 3) scTwice.nd rfl (Or.inl rfl))
        (pss_one (ps_for PassesOwn.never rfl (pi_list (pe_ix ix_list (pv 1) (pv 3) (fun _ _ => rfl))) (pg_name (i := 4) scTwice.nd rfl (Or.inl rfl))
          (pss_cons (ps_if (pt_cmp (pc_din (hu_of hr) (pv 4) (pv 2))) (pss_one (ps_ret pe_bl)) pss_nil) (pss_one (ps_dput (hu_of hr) (pv 2) (pv 4) pe_bl rfl))))))
      (pss_one (ps_ret pe_bl))), ?_⟩)
  · obtain ⟨c, s, cs, seen, rfl, _⟩ := h
    rfl
  · obtain ⟨c, sa, cs, seen, rfl, S, k⟩ := h
    obtain ⟨hc, ⟨rs, hs, ha⟩, hlow, hbelow⟩ := S
    intro d hd
    refine ⟨_, rfl, c, rfl, ⟨_, SqL.of ((same_upd hd) _ _ hc)⟩, for_it (walk_list (K := K) (a := c) (xs := cs.map vn))
      (fun i σ H' => ∃ v4 v5 : Option V, σ = [some (.ref c), some (.ref sa), some (.ref d), v4, v5] ∧ Same H H' ∧ (seenOf seen (cs.take i)).Nodup ∧ H' d = some (.dK (kvsOf (seenOf seen (cs.take i)))))
      ⟨none, none, rfl, same_upd hd, .nil, upd_same⟩ (fun i σ H' _ ⟨_, _, _, s2, _⟩ => SqL.of (s2 _ _ hc)) ?_ ?_⟩
    · rintro i x σ H2 H3 hi ⟨v4, v5, rfl, s2, hno, hdd⟩ ⟨rfl, hx⟩
      obtain ⟨p, hp, rfl⟩ := map_vn_get hx
      have pl : p < seen.length := hlow p (List.mem_of_getElem? hp)
      have hsp : seen[p]? = some seen[p] := by simp [pl]
      generalize seen[p] = sl at hsp
      obtain ⟨r, hr1, hrl⟩ := ha.at hsp
      refine ⟨_, rfl, _, rfl, sa, rs.map V.ref, _, .ref r, rfl, rfl, SqL.of (s2 _ _ hs), atI_nat (by rw [List.getElem?_map, hr1]; rfl), ?_⟩
      refine ⟨r, rfl, ⟨_, SqL.of (s2 _ _ hrl)⟩, for_it (walk_list (K := K) (a := r) (xs := sl.map vn))
        (fun j σ H' => ∃ v5 : Option V, σ = [some (.ref c), some (.ref sa), some (.ref d), some (vn p), v5] ∧ Same H H' ∧ (seenOf seen (cs.take i) ++ sl.take j).Nodup ∧ H' d = some (.dK (kvsOf (seenOf seen (cs.take i) ++ sl.take j))))
        ⟨v5, rfl, s2, by rw [List.take_zero, List.append_nil]; exact hno, by rw [List.take_zero, List.append_nil]; exact hdd⟩ (fun j σ H' _ ⟨_, _, s3, _⟩ => SqL.of (s3 _ _ hrl)) ?_ ?_⟩
      · rintro j x σ H4 H5 hj ⟨w5, rfl, s4, hno4, hd4⟩ ⟨rfl, hx⟩
        obtain ⟨t, ht, rfl⟩ := map_vn_get hx
        have all : ∀ x ∈ seenOf seen (cs.take i) ++ sl.take j, x < 12 := fun x hx => by
          rcases List.mem_append.mp hx with z | z
          · exact seenOf_below hbelow x z
          · exact hbelow sl (List.mem_of_getElem? hsp) x (List.mem_of_mem_take z)
        refine ⟨_, rfl, _, rfl, d, _, rfl, DGet.k (k := Sum.inl ((t : Nat) : Int)) hd4, _, rfl, ?_⟩
        rw [kvsOf_val]
        by_cases hin : t ∈ seenOf seen (cs.take i) ++ sl.take j
        · rw [decide_eq_true hin]
          refine iteT ?_
          have e : noTwice seen cs = false := by
            refine decide_eq_false fun z => ?_
            have e1 : seenOf seen cs = (seenOf seen (cs.take i) ++ sl.take j) ++ t :: (sl.drop (j + 1) ++ seenOf seen (cs.drop (i + 1))) := by
              conv => lhs; rw [split_at hp]
              rw [seenOf_app, show p :: cs.drop (i + 1) = [p] ++ cs.drop (i + 1) from rfl, seenOf_app, seenOf_one, getD_of hsp]
              conv => lhs; rw [split_at ht]
              simp only [List.append_assoc, List.cons_append]
            rw [e1] at z
            exact twice_no hin z
          rw [e] at k
          exact k _ s4
        · rw [decide_eq_false hin]
          refine iteF ?_
          have hz : (kvsOf (seenOf seen (cs.take i) ++ sl.take j)).length < sizeLine := by
            rw [kvsOf_len]
            exact small (m := 12) (below_len hno4 all) (by decide)
          have ea : addK (seenOf seen (cs.take i) ++ sl.take j) t = seenOf seen (cs.take i) ++ sl.take (j + 1) := by
            unfold addK
            rw [if_neg hin, take_more ht, List.append_assoc]
          refine ⟨_, rfl, _, rfl, d, _, rfl, DPut.k (k := Sum.inl ((t : Nat) : Int)) hd4 hz, some (vn t), rfl, same_new s4 hd, ?_, ?_⟩
          · rw [← ea]
            exact addK_nodup hno4
          · rw [upd_same, kvsOf_put, ea]
      · rintro σ H4 ⟨w5, rfl, s4, hno4, hd4⟩
        rw [List.length_map, List.take_length] at hd4 hno4
        refine ⟨some (vn p), w5, rfl, s4, ?_, ?_⟩
        · rw [seenOf_more hp, getD_of hsp]
          exact hno4
        · rw [seenOf_more hp, getD_of hsp]
          exact hd4
    · rintro σ H2 ⟨v4, v5, rfl, s2, hno, hdd⟩
      rw [List.length_map, List.take_length] at hno
      have e : noTwice seen cs = true := decide_eq_true hno
      rw [e] at k
      exact k H2 s2

/-! ### told, fewest, most_points -/
/-- some choices in the heap -/
structure Some (H : Hp) (l : Addr) (cs : List (List Nat)) : Prop where
  there : RefsAt NatsAt H l cs
  few : cs.length ≤ 256
  short : ∀ c ∈ cs, c.length ≤ 8
def rLen (K : PySem.W.Frag) : List V → Hp → VK → Prop := fun xs H Q => ∃ p ys, xs = [.ref p] ∧ (SqL K H p ys ∨ SqT K H p ys) ∧ Q (.int (ys.length : Nat)) H
def spTold : Sp := fun vs H Q _ => ∃ (l : Addr) (cs : List (List Nat)) (m : Nat), vs = [.ref l, vn m] ∧ Some H l cs ∧ (∃ c ∈ cs, c.length = m) ∧
  ∀ (H' : Hp) (D : Addr), Same H H' → H D = none → NatsAt H' D (m :: (ofLen cs m).length :: (ofLen cs m).headD []) → Q (.ref D) H'
abbrev nTold : List Str := ["some", "size", "best", "choice"]
theorem scTold : FnScope nTold ["some", "size"] (defScope sTold) := ⟨rfl, rfl, rfl, by decide +kernel, rfl, by decide +kernel, by decide +kernel⟩
theorem ofLen_take {cs : List (List Nat)} {i m : Nat} {c : List Nat} (h : cs[i]? = some c) : ofLen (cs.take (i + 1)) m = ofLen (cs.take i) m ++ (if c.length = m then [c] else []) := by
  rw [take_more h, ofLen_app]
theorem ofLen_len (cs : List (List Nat)) (m : Nat) : (ofLen cs m).length ≤ cs.length := List.length_filter_le _ _
theorem ok_told {f : Addr} {fd : FuncData} (F : Fun K "told" "told" sTold f fd) (T : Txt K mg CT CW) : FnOk P w K mg base CX0 1 f fd ["some", "size"] spTold := by
  refine F.ok scTold (fun vs H Q E h => ?_) (fun cdv A outer s H vs Q E hr h => ⟨_,
    pss_cons (ps_setLc (i := 2) (own := [("choice", 3)]) (g := gName 3) rfl scTold.nd rfl rfl (sw_true rfl rfl rfl (by decide +kernel)) (pi_list (pv 0)) (blkOk_by (N := nTold) (sc := defScope sTold) (by decide +kernel))
        (fun _ _ _ _ _ => pg_name (i := 3) scTold.nd rfl (Or.inl rfl))
        (fun _ _ _ _ _ => pts_one (pt_cmpR op_eq (pe_callB (r := rLen K) call_len_seq (by rfl) T.len PySem.boot_len (pa_cons (pv 3) pa_nil)) (pv 1) (nomark _)))
        (fun _ _ _ _ _ => pv 3))
      (pss_one (ps_ret (pe_op op_cat (pe_lst (pa_cons (pv 1) (pa_cons (pe_callB (r := rLen K) call_len_seq (by rfl) T.len PySem.boot_len (pa_cons (pv 2) pa_nil)) pa_nil))) (pe_ix ix_list (pv 2) pe_int (fun _ _ => rfl))))), ?_⟩)
  · obtain ⟨l, cs, m, rfl, _⟩ := h
    rfl
  · obtain ⟨l, cs, m, rfl, ⟨⟨rs, hl, ha⟩, hfew, hshort⟩, ⟨c0, hc0, e0⟩, k⟩ := h
    have hlen := ha.length
    refine ⟨_, rfl, l, rfl, ⟨_, SqL.of hl⟩, fun D hD => lc_it (walk_list (K := K) (a := l) (xs := rs.map V.ref)) (fun j H5 => AccL H D (ofLen (cs.take j) m) H5) (AccL.start hD)
        (fun j H5 _ a => SqL.of (a.same _ _ hl)) ?_ ?_⟩
    · rintro j x H5 H6 hj a ⟨rfl, hx⟩
      obtain ⟨r, hr1, rfl⟩ := map_ref_get hx
      obtain ⟨c, hc, hrc⟩ := ha.get hr1
      refine ⟨rfl, _, rfl, r, c.map vn, rfl, Or.inl (SqL.of (a.same _ _ hrc)), _, rfl, rfl, _, rfl, ?_⟩
      have e : decide (V.int (((c.map vn).length : Nat) : Int) = vn m) = decide (c.length = m) := by
        rw [List.length_map]
        refine decide_eq_decide.mpr ⟨fun z => ?_, fun z => by rw [z]; rfl⟩
        have := V.int.inj z
        omega
      rw [e, ofLen_take hc]
      by_cases q : c.length = m
      · rw [decide_eq_true q, if_pos q]
        refine iteT ⟨_, rfl, a.push hD (Same.refl _) (fun z => ?_) (a.same _ _ hrc) ?_⟩
        · subst z
          rw [hrc] at hD
          cases hD
        · exact small (m := 256) (Nat.le_trans (ofLen_len _ _) (Nat.le_trans (take_le _ _) (by omega))) (by decide)
      · rw [decide_eq_false q, if_neg q, List.append_nil]
        exact iteF a
    · intro H5 a
      rw [List.length_map, hlen, List.take_length] at a
      obtain ⟨rb, hb, hab⟩ := a.refs
      have s5 : Same H H5 := a.same
      have hlb := hab.length
      obtain ⟨c1, rest, eb⟩ : ∃ c1 rest, ofLen cs m = c1 :: rest := by
        cases e : ofLen cs m with
        | nil =>
          have z : c0 ∈ ofLen cs m := List.mem_filter.mpr ⟨hc0, decide_eq_true e0⟩
          rw [e] at z
          cases z
        | cons a r => exact ⟨a, r, rfl⟩
      have h1 : (ofLen cs m)[0]? = some c1 := by rw [eb]; rfl
      obtain ⟨r1, hr1, hn1⟩ := hab.at h1
      have c1m : c1 ∈ cs := by
        have z : c1 ∈ ofLen cs m := by rw [eb]; exact List.mem_cons_self
        exact (List.mem_filter.mp z).1
      refine ⟨_, rfl, _, rfl, D, rb.map V.ref, rfl, Or.inl (SqL.of hb), (by show 2 ≤ sizeLine; decide), fun p1 hp1 => ?_⟩
      have s6 := same_upd (o := .lst [vn m, V.int (((rb.map V.ref).length : Nat) : Int)]) hp1
      refine ⟨_, rfl, D, rb.map V.ref, _, .ref r1, rfl, rfl, SqL.of (s6 _ _ hb), at_of (j := 0) rfl (by rw [List.getElem?_map, hr1]; rfl), ?_⟩
      refine ⟨p1, r1, _, c1.map vn, rfl, rfl, upd_same, s6 _ _ hn1, ?_, fun p2 hp2 => ?_⟩
      · have := hshort c1 c1m
        rw [List.length_map]
        exact Nat.le_of_lt (small (m := 10) (by simp; omega) (by decide))
      · have s7 := same_upd (o := .lst ([vn m, V.int (((rb.map V.ref).length : Nat) : Int)] ++ c1.map vn)) hp2
        refine k _ p2 ((s5.trans s6).trans s7) ((s5.trans s6).free hp2) ?_
        unfold NatsAt
        rw [upd_same, eb, List.length_map, hlb, eb]
        rfl
def spBest (better : Nat → Nat → Bool) : Sp := fun vs H Q _ => ∃ (l : Addr) (cs : List (List Nat)), vs = [.ref l] ∧ Some H l cs ∧ cs ≠ [] ∧
  ∀ (m : Nat) (H' : Hp) (D : Addr), IsBest better cs m → Same H H' → H D = none → NatsAt H' D (m :: (ofLen cs m).length :: (ofLen cs m).headD []) → Q (.ref D) H'
abbrev nBest : List Str := ["some", "choice"]
theorem scFewest : FnScope nBest ["some"] (defScope sFewest) := ⟨rfl, rfl, rfl, by decide +kernel, rfl, by decide +kernel, by decide +kernel⟩
theorem scMostP : FnScope nBest ["some"] (defScope sMostP) := ⟨rfl, rfl, rfl, by decide +kernel, rfl, by decide +kernel, by decide +kernel⟩
def lensOf (cs : List (List Nat)) : List Int := cs.map fun c => (c.length : Int)
theorem lensOf_mem {cs : List (List Nat)} {m : Int} (h : m ∈ lensOf cs) : ∃ c ∈ cs, m = (c.length : Nat) := by
  obtain ⟨c, hc, e⟩ := List.mem_map.mp h
  exact ⟨c, hc, e.symm⟩
theorem lens_take {cs : List (List Nat)} {j : Nat} {c : List Nat} (h : cs[j]? = some c) : (lensOf (cs.take (j + 1))).map V.int = (lensOf (cs.take j)).map V.int ++ [V.int ((c.length : Nat) : Int)] := by
  rw [take_more h]
  unfold lensOf
  rw [List.map_append, List.map_append]
  rfl
theorem ok_fewest {f : Addr} {fd : FuncData} (F : Fun K "fewest" "fewest" sFewest f fd) (T : Txt K mg CT CW) (c : Callee P w K mg base 1 "told" ["some", "size"] spTold) :
    FnOk P w K mg base CX0 2 f fd ["some"] (spBest fun a b => decide (a < b)) := by
  refine F.ok scFewest (fun vs H Q E h => ?_) (fun cdv A outer s H vs Q E hr h => ⟨_,
    pss_one (ps_ret (pe_by c hr (by rfl) (pa_cons (pv 0) (pa_cons (pe_callB (cr_min rfl) (by rfl) T.min (by decide +kernel) (pa_cons
      (pe_lc (own := [("choice", 1)]) (g := gName 1) rfl scFewest.nd (pi_list (pv 0)) (blkOk_by (N := nBest) (sc := defScope sFewest) (by decide +kernel))
        (fun _ _ _ _ _ => pg_name (i := 1) scFewest.nd rfl (Or.inl rfl)) (fun _ _ _ _ _ => pts_nil)
        (fun _ _ _ _ _ => pe_callB (r := rLen K) call_len_seq (by rfl) T.len PySem.boot_len (pa_cons (pv 1) pa_nil))) pa_nil)) pa_nil)))), ?_⟩)
  · obtain ⟨l, cs, rfl, _⟩ := h
    rfl
  · obtain ⟨l, cs, rfl, S, hne, k⟩ := h
    obtain ⟨⟨rs, hl, ha⟩, hfew, hshort⟩ := id S
    have hlen := ha.length
    refine ⟨_, rfl, _, rfl, l, rfl, ⟨_, SqL.of hl⟩, fun D hD => lc_it (walk_list (K := K) (a := l) (xs := rs.map V.ref)) (fun j H5 => Acc H D ((lensOf (cs.take j)).map V.int) H5) (Acc.start hD)
        (fun j H5 _ a => SqL.of (a.2 _ _ hl)) ?_ ?_⟩
    · rintro j x H5 H6 hj a ⟨rfl, hx⟩
      obtain ⟨r, hr1, rfl⟩ := map_ref_get hx
      obtain ⟨c, hc, hrc⟩ := ha.get hr1
      refine ⟨rfl, _, rfl, r, c.map vn, rfl, Or.inl (SqL.of (a.2 _ _ hrc)), ?_⟩
      rw [lens_take hc, List.length_map]
      refine a.push hD (Same.refl _) _ ?_
      unfold lensOf
      rw [List.length_map, List.length_map]
      exact small (m := 256) (Nat.le_trans (take_le _ _) (by omega)) (by decide)
    · intro H5 a
      rw [List.length_map, hlen, List.take_length] at a
      refine ⟨D, lensOf cs, rfl, SqL.of a.1, ?_, fun m hm hle => ?_⟩
      · unfold lensOf
        rw [List.length_map]
        exact List.length_pos_iff.mpr hne
      · obtain ⟨c1, hc1, rfl⟩ := lensOf_mem hm
        refine ⟨l, cs, c1.length, rfl, ⟨S.there.keep keeps_nats a.2, hfew, hshort⟩, ⟨c1, hc1, rfl⟩, fun H' D' s' hD' hn => ?_⟩
        refine k c1.length H' D' ⟨⟨c1, hc1, rfl⟩, fun c2 hc2 => decide_eq_false ?_⟩ (a.2.trans s') (a.2.free hD') hn
        have := hle _ (List.mem_map.mpr ⟨c2, hc2, rfl⟩)
        omega
theorem ok_mostp {f : Addr} {fd : FuncData} (F : Fun K "most_points" "most_points" sMostP f fd) (T : Txt K mg CT CW) (c : Callee P w K mg base 1 "told" ["some", "size"] spTold) :
    FnOk P w K mg base CX0 2 f fd ["some"] (spBest fun a b => decide (b < a)) := by
  refine F.ok scMostP (fun vs H Q E h => ?_) (fun cdv A outer s H vs Q E hr h => ⟨_,
    pss_one (ps_ret (pe_by c hr (by rfl) (pa_cons (pv 0) (pa_cons (pe_callB (cr_max rfl) (by rfl) T.max (by decide +kernel) (pa_cons
      (pe_lc (own := [("choice", 1)]) (g := gName 1) rfl scMostP.nd (pi_list (pv 0)) (blkOk_by (N := nBest) (sc := defScope sMostP) (by decide +kernel))
        (fun _ _ _ _ _ => pg_name (i := 1) scMostP.nd rfl (Or.inl rfl)) (fun _ _ _ _ _ => pts_nil)
        (fun _ _ _ _ _ => pe_callB (r := rLen K) call_len_seq (by rfl) T.len PySem.boot_len (pa_cons (pv 1) pa_nil))) pa_nil)) pa_nil)))), ?_⟩)
  · obtain ⟨l, cs, rfl, _⟩ := h
    rfl
  · obtain ⟨l, cs, rfl, S, hne, k⟩ := h
    obtain ⟨⟨rs, hl, ha⟩, hfew, hshort⟩ := id S
    have hlen := ha.length
    refine ⟨_, rfl, _, rfl, l, rfl, ⟨_, SqL.of hl⟩, fun D hD => lc_it (walk_list (K := K) (a := l) (xs := rs.map V.ref)) (fun j H5 => Acc H D ((lensOf (cs.take j)).map V.int) H5) (Acc.start hD)
        (fun j H5 _ a => SqL.of (a.2 _ _ hl)) ?_ ?_⟩
    · rintro j x H5 H6 hj a ⟨rfl, hx⟩
      obtain ⟨r, hr1, rfl⟩ := map_ref_get hx
      obtain ⟨c, hc, hrc⟩ := ha.get hr1
      refine ⟨rfl, _, rfl, r, c.map vn, rfl, Or.inl (SqL.of (a.2 _ _ hrc)), ?_⟩
      rw [lens_take hc, List.length_map]
      refine a.push hD (Same.refl _) _ ?_
      unfold lensOf
      rw [List.length_map, List.length_map]
      exact small (m := 256) (Nat.le_trans (take_le _ _) (by omega)) (by decide)
    · intro H5 a
      rw [List.length_map, hlen, List.take_length] at a
      refine ⟨D, lensOf cs, rfl, SqL.of a.1, ?_, fun m hm hle => ?_⟩
      · unfold lensOf
        rw [List.length_map]
        exact List.length_pos_iff.mpr hne
      · obtain ⟨c1, hc1, rfl⟩ := lensOf_mem hm
        refine ⟨l, cs, c1.length, rfl, ⟨S.there.keep keeps_nats a.2, hfew, hshort⟩, ⟨c1, hc1, rfl⟩, fun H' D' s' hD' hn => ?_⟩
        refine k c1.length H' D' ⟨⟨c1, hc1, rfl⟩, fun c2 hc2 => decide_eq_false ?_⟩ (a.2.trans s') (a.2.free hD') hn
        have := hle _ (List.mem_map.mpr ⟨c2, hc2, rfl⟩)
        omega
end
end My

set_option Elab.async false
set_option maxRecDepth 100000
set_option maxHeartbeats 4000000
/-! # The walk, part 4: the wood, what changes it, what counts -/
namespace My
open PySem PySem.Spec PyProof.Rows L2

/-! ### how a wood lies in the heap -/
def wF (ta pa : Addr) : List (Str × V) := [("trees", .ref ta), ("points", .ref pa)]
structure WoodAt (CT CW : Addr) (H : Hp) (a ta pa : Addr) (w : Si59.Wood) : Prop where
  ins : ∃ dx, H a = some (.ins CW dx (wF ta pa))
  trees : RefsAt (TreeAt CT) H ta w.trees
  points : RefsAt PtAt H pa w.points
  ne : ta ≠ pa
theorem WoodAt.keep {CT CW : Addr} {H H' : Hp} {a ta pa : Addr} {w : Si59.Wood} (W : WoodAt CT CW H a ta pa w) (s : Same H H') : WoodAt CT CW H' a ta pa w := by
  obtain ⟨dx, hi⟩ := W.ins
  exact ⟨⟨dx, s _ _ hi⟩, W.trees.keep keeps_tree s, W.points.keep keeps_pt s, W.ne⟩
theorem wF_trees (ta pa : Addr) : (wF ta pa).lookup ("trees" : Str) = some (.ref ta) := lk_here
theorem wF_points (ta pa : Addr) : (wF ta pa).lookup ("points" : Str) = some (.ref pa) := (lk_past (by decide +kernel)).trans lk_here
theorem wF_none {ta pa : Addr} {m : Str} (h1 : (m == ("trees" : Str)) = false) (h2 : (m == ("points" : Str)) = false) : (wF ta pa).lookup m = none := (lk_past h1).trans ((lk_past h2).trans rfl)
theorem wF_new (ta pa : Addr) : putF "points" (.ref pa) (putF "trees" (.ref ta) []) = wF ta pa := by
  rw [put_new, put_past (by decide +kernel), put_new]
  rfl
theorem wF_trees2 (ta pa l : Addr) : putF "trees" (.ref l) (wF ta pa) = wF l pa := put_here
theorem wF_points2 (ta pa l : Addr) : putF "points" (.ref l) (wF ta pa) = wF ta l := (put_past (by decide +kernel)).trans (congrArg _ put_here)
/-- a list that grows changes no tree and no place -/
theorem tree_upd {CT : Addr} {H : Hp} {l r : Addr} {xs : List V} {o : HO} {t : Si59.Tree} (hl : H l = some (.lst xs)) (h : TreeAt CT H r t) : TreeAt CT (upd H l o) r t := by
  obtain ⟨dx, q, h1, h2⟩ := h
  refine ⟨dx, q, (upd_ne (ne_of h1 hl (by intro z; cases z))).trans h1, ?_⟩
  exact (upd_ne (ne_of h2 hl (by intro z; cases z))).trans h2
theorem pt_upd {H : Hp} {l r : Addr} {xs : List V} {o : HO} {p : Nat × Nat} (hl : H l = some (.lst xs)) (h : PtAt H r p) : PtAt (upd H l o) r p :=
  (upd_ne (ne_of h hl (by intro z; cases z))).trans h

/-! ### what a method leaves -/
def Done (CT CW : Addr) (H : Hp) (a ta pa : Addr) (w' : Si59.Wood) (ans : List Int) (Q : VK) : Prop :=
  ∀ (H' : Hp) (D ta' pa' : Addr), WoodAt CT CW H' a ta' pa' w' → (ta' = ta ∨ H ta' = none) → (pa' = pa ∨ H pa' = none) → (∀ b o, H b = some o → b ≠ a → b ≠ ta → b ≠ pa → H' b = some o) →
    H D = none → H' D = some (.lst (ans.map V.int)) → Q (.ref D) H'
theorem Done.same {CT CW : Addr} {H H' : Hp} {a ta pa D : Addr} {w : Si59.Wood} {ans : List Int} {Q : VK} (d : Done CT CW H a ta pa w ans Q) (W : WoodAt CT CW H a ta pa w) (s : Same H H') (hD : H D = none) (e : H' D = some (.lst (ans.map V.int))) : Q (.ref D) H' :=
  d H' D ta pa (W.keep s) (.inl rfl) (.inl rfl) (fun b o q _ _ _ => s b o q) hD e
/-- an answer of one number, without a change -/
theorem Done.one {CT CW : Addr} {H : Hp} {a ta pa : Addr} {w : Si59.Wood} {v : Int} {Q : VK} (d : Done CT CW H a ta pa w [v] Q) (W : WoodAt CT CW H a ta pa w) : ([V.int v] : List V).length ≤ sizeLine ∧ ∀ D, H D = none → Q (.ref D) (upd H D (.lst [V.int v])) :=
  ⟨(by show 1 ≤ sizeLine; decide), fun _ hD => d.same W (same_upd hD) hD upd_same⟩
/-- a method's promise: rel says how its words are a call -/
def spM (CT CW : Addr) (rel : List V → Si59.Call → Prop) : Sp := fun vs H Q _ => ∃ (a ta pa : Addr) (w : Si59.Wood) (ws : List V) (q : Si59.Call), vs = .ref a :: ws ∧ rel ws q ∧ WoodAt CT CW H a ta pa w ∧ Good w ∧ Done CT CW H a ta pa (nextOf w q) (ansOf w q) Q
def relBegins (ws : List V) (q : Si59.Call) : Prop := ws = [] ∧ q = .begins
def relTree (ws : List V) (q : Si59.Call) : Prop := ∃ t : Si59.Tree, ws = [vn t.x, vn t.y, vn t.thick, vn t.wrong] ∧ q = .tree t
def relPoint (ws : List V) (q : Si59.Call) : Prop := ∃ x y : Nat, ws = [vn x, vn y] ∧ q = .point x y
def relCount (ws : List V) (q : Si59.Call) : Prop := ∃ p k : Nat, ws = [vn p, vn k] ∧ q = .count p k
def relWorth (ws : List V) (q : Si59.Call) : Prop := ∃ k : Nat, ws = [vn k] ∧ q = .worth k
def relMost (ws : List V) (q : Si59.Call) : Prop := ∃ n : Nat, ws = [vn n] ∧ q = .most n
def relCover (ws : List V) (q : Si59.Call) : Prop := ∃ k : Nat, ws = [vn k] ∧ q = .cover k
def relOnce (ws : List V) (q : Si59.Call) : Prop := ∃ k : Nat, ws = [vn k] ∧ q = .once k

/-- an attribute read, the written part a letter -/
theorem pe_fldK {X : Cx} {K : PySem.W.Frag} {e : Expr} {f : Str} {ta : TE} {pos : Pos} (he : PE X e ta) (hK : X.K = K) (hb : attributeBase e f X.env (eval e X.env) = eval e X.env) : PE X (.Attribute e f pos) (tFld K ta f) := by
  subst hK
  exact pe_fld he hb

section
variable {P : Program} {w : World} {K : PySem.W.Frag} {mg : Str → Option Value} {base : Heap} {CT CW : Addr}
/-! ### Wood.__init__, begins -/
def spWInit (CT CW : Addr) : Sp := fun vs H Q _ => ∃ p dx : Addr, vs = [.ref p] ∧ H p = some (.ins CW dx []) ∧
  ∀ (H' : Hp) (ta pa : Addr), WoodAt CT CW H' p ta pa Si59.init → H ta = none → H pa = none → (∀ b o, H b = some o → b ≠ p → H' b = some o) → Q .non H'
theorem scWInit : FnScope ["self"] ["self"] (defScope sWInit) := ⟨rfl, rfl, rfl, by decide +kernel, rfl, by decide +kernel, by decide +kernel⟩
theorem ok_winit {f : Addr} {fd : FuncData} (F : Fun K "__init__" "Wood.__init__" sWInit f fd) (T : Txt K mg CT CW) : FnOk P w K mg base CX0 1 f fd ["self"] (spWInit CT CW) := by
  refine F.ok scWInit (fun vs H Q E h => ?_) (fun cdv A outer s H vs Q E hr h => ⟨_,
    pss_cons (ps_fld (pv 0) (pe_lst pa_nil) rfl) (pss_one (ps_fld (pv 0) (pe_lst pa_nil) rfl)), ?_⟩)
  · obtain ⟨p, dx, rfl, _⟩ := h
    rfl
  · obtain ⟨p, dx, rfl, hp, k⟩ := h
    refine ⟨by decide, fun l1 h1 => ?_⟩
    have n1 : p ≠ l1 := ne_of_none hp h1
    refine ⟨_, rfl, p, CW, dx, [], rfl, (upd_ne n1).trans hp, T.cw, T.nTrees, (by show 0 < 1000; decide), ?_⟩
    refine ⟨by decide, fun l2 h2 => ?_⟩
    have n2 : p ≠ l2 := ne_of_none upd_same h2
    have n21 : l1 ≠ l2 := ne_of_none ((upd_ne n1.symm).trans upd_same) h2
    have h2H : H l2 = none := by
      rw [upd_ne n2.symm, upd_ne n21.symm] at h2
      exact h2
    refine ⟨_, rfl, p, CW, dx, _, rfl, (upd_ne n2).trans upd_same, T.cw, T.nPoints, (by show 1 < 1000; decide), ?_⟩
    refine k _ l1 l2 ⟨⟨dx, Eq.trans upd_same (congrArg (fun r => some (HO.ins CW dx r)) (wF_new l1 l2))⟩, ⟨[], ?_, .nil⟩, ⟨[], ?_, .nil⟩, n21⟩ h1 h2H fun b o e hb => ?_
    · rw [upd_ne n1.symm, upd_ne n21, upd_ne n1.symm, upd_same]
      rfl
    · rw [upd_ne n2.symm, upd_same]
      rfl
    · rw [upd_ne hb, upd_ne (ne_of_none e h2H), upd_ne hb, upd_ne (ne_of_none e h1)]
      exact e
theorem scBegins : FnScope ["self"] ["self"] (defScope sBegins) := ⟨rfl, rfl, rfl, by decide +kernel, rfl, by decide +kernel, by decide +kernel⟩
theorem ok_begins {f : Addr} {fd : FuncData} (F : Fun K "begins" "Wood.begins" sBegins f fd) (T : Txt K mg CT CW) : FnOk P w K mg base CX0 1 f fd ["self"] (spM CT CW relBegins) := by
  refine F.ok scBegins (fun vs H Q E h => ?_) (fun cdv A outer s H vs Q E hr h => ⟨_,
    pss_cons (ps_fld (pv 0) (pe_lst pa_nil) rfl) (pss_cons (ps_fld (pv 0) (pe_lst pa_nil) rfl) (pss_one (ps_ret (pe_lst (pa_cons pe_int pa_nil))))), ?_⟩)
  · obtain ⟨_, _, _, _, _, _, rfl, ⟨rfl, _⟩, _⟩ := h
    rfl
  · obtain ⟨a, ta, pa, wo, ws, q, rfl, ⟨rfl, rfl⟩, W, G, k⟩ := h
    obtain ⟨⟨dx, hp⟩, ⟨rt, ht, _⟩, ⟨rp, hpp, _⟩, hne⟩ := W
    refine ⟨by decide, fun l1 h1 => ?_⟩
    have n1 : a ≠ l1 := ne_of_none hp h1
    refine ⟨_, rfl, a, CW, dx, _, rfl, (upd_ne n1).trans hp, T.cw, T.nTrees, (by show 2 < 1000; decide), ?_⟩
    rw [wF_trees2]
    refine ⟨by decide, fun l2 h2 => ?_⟩
    have n2 : a ≠ l2 := ne_of_none upd_same h2
    have n21 : l1 ≠ l2 := ne_of_none ((upd_ne n1.symm).trans upd_same) h2
    have h2H : H l2 = none := by
      rw [upd_ne n2.symm, upd_ne n21.symm] at h2
      exact h2
    refine ⟨_, rfl, a, CW, dx, _, rfl, (upd_ne n2).trans upd_same, T.cw, T.nPoints, (by show 2 < 1000; decide), ?_⟩
    rw [wF_points2]
    refine ⟨by decide, fun D hD => ?_⟩
    have nDa : a ≠ D := ne_of_none upd_same hD
    have nD1 : l1 ≠ D := ne_of_none (by rw [upd_ne n1.symm, upd_ne n21, upd_ne n1.symm, upd_same]) hD
    have nD2 : l2 ≠ D := ne_of_none (by rw [upd_ne n2.symm, upd_same]) hD
    have hDH : H D = none := by
      rw [upd_ne nDa.symm, upd_ne nD2.symm, upd_ne nDa.symm, upd_ne nD1.symm] at hD
      exact hD
    refine k _ D l1 l2 ⟨⟨dx, (upd_ne nDa).trans upd_same⟩, ⟨[], ?_, .nil⟩, ⟨[], ?_, .nil⟩, n21⟩ (.inr h1) (.inr h2H) (fun b o e hb _ _ => ?_) hDH upd_same
    · rw [upd_ne nD1, upd_ne n1.symm, upd_ne n21, upd_ne n1.symm, upd_same]
      rfl
    · rw [upd_ne nD2, upd_ne n2.symm, upd_same]
      rfl
    · rw [upd_ne (ne_of_none e hDH), upd_ne hb, upd_ne (ne_of_none e h2H), upd_ne hb, upd_ne (ne_of_none e h1)]
      exact e

/-! ### tree, point -/
abbrev CIsPlace (P : Program) (w : World) (K : PySem.W.Frag) (mg : Str → Option Value) (base : Heap) : Prop := Callee P w K mg base 2 "is_place" ["x", "y"] spIsPlace
abbrev CIsFactor (P : Program) (w : World) (K : PySem.W.Frag) (mg : Str → Option Value) (base : Heap) : Prop := Callee P w K mg base 2 "is_factor" ["k"] spIsFactor
abbrev nTree : List Str := ["self", "x", "y", "thickness", "wrong"]
theorem scTree : FnScope nTree nTree (defScope sTree) := ⟨rfl, rfl, rfl, by decide +kernel, rfl, by decide +kernel, by decide +kernel⟩
/-- what a tree must be -/
def treeBad (t : Si59.Tree) : Prop := Si59.FAR < t.x ∨ Si59.FAR < t.y ∨ t.thick < 1 ∨ Si59.THICK < t.thick ∨ t.thick ≤ t.wrong
theorem tree_bad {w : Si59.Wood} {t : Si59.Tree} (h : treeBad t) : nextOf w (.tree t) = w ∧ ansOf w (.tree t) = [-1] := by
  have e : Si59.step w (.tree t) = (w, Si59.ok (-1)) := if_pos h
  unfold nextOf ansOf
  rw [e]
  exact ⟨rfl, rfl⟩
theorem tree_full {w : Si59.Wood} {t : Si59.Tree} (h : ¬ treeBad t) (h2 : 12 ≤ w.trees.length) : nextOf w (.tree t) = w ∧ ansOf w (.tree t) = [-5] := by
  have e : Si59.step w (.tree t) = (w, Si59.ok (-5)) := (if_neg h).trans (if_pos h2)
  unfold nextOf ansOf
  rw [e]
  exact ⟨rfl, rfl⟩
theorem tree_good {w : Si59.Wood} {t : Si59.Tree} (h : ¬ treeBad t) (h2 : ¬ 12 ≤ w.trees.length) : nextOf w (.tree t) = { w with trees := w.trees ++ [t] } ∧ ansOf w (.tree t) = [(w.trees.length : Int)] := by
  have e : Si59.step w (.tree t) = ({ w with trees := w.trees ++ [t] }, Si59.ok w.trees.length) := (if_neg h).trans (if_neg h2)
  unfold nextOf ansOf
  rw [e]
  exact ⟨rfl, rfl⟩
theorem ok_tree {f : Addr} {fd : FuncData} (F : Fun K "tree" "Wood.tree" sTree f fd) (T : Txt K mg CT CW) (c1 : CIsPlace P w K mg base) (c2 : CFromTo P w K mg base) (M : Maker P w K mg base 1 "Tree" CT ["self", "x", "y", "thickness", "wrong"] (spTreeInit CT)) :
    FnOk P w K mg base CX0 3 f fd nTree (spM CT CW relTree) := by
  refine F.ok scTree (fun vs H Q E h => ?_) (fun cdv A outer s H vs Q E hr h => ⟨_,
    pss_cons (ps_if (PW.pt (pw_or (pt_not (pt_val (pe_by c1 hr (by rfl) (pa_cons (pv 1) (pa_cons (pv 2) pa_nil)))))
        (pw_or (pt_not (pt_val (pe_by c2 (hr.mono (by decide)) (by rfl) (pa_cons (pv 3) (pa_cons pe_int (pa_cons (pe_const T.cThick (by rfl)) pa_nil))))))
          (pw_or1 (pt_cmpR op_ge (pv 4) (pv 3) (nomark _)))))) (pss_one (ps_ret (pe_lst (pa_cons (pe_const T.cNot (by rfl)) pa_nil)))) pss_nil)
      (pss_cons (ps_if (pt_cmpR op_ge (pe_callB (r := rLen K) call_len_seq (by rfl) T.len PySem.boot_len (pa_cons (pe_fld (pv 0) rfl) pa_nil)) (pe_const T.cTrees (by rfl)) (nomark _))
        (pss_one (ps_ret (pe_lst (pa_cons (pe_const T.cFull (by rfl)) pa_nil)))) pss_nil)
      (pss_cons (ps_expr (pe_bm PySem.F.plainAttrs_list PySem.F.slot_list_append PySem.F.type_list_append mt_append (pe_fld (pv 0) rfl) (pa_cons (pe_new M hr (by rfl) (pa_cons (pv 1) (pa_cons (pv 2) (pa_cons (pv 3) (pa_cons (pv 4) pa_nil))))) pa_nil)))
      (pss_one (ps_ret (pe_lst (pa_cons (pe_op op_sub (pe_callB (r := rLen K) call_len_seq (by rfl) T.len PySem.boot_len (pa_cons (pe_fld (pv 0) rfl) pa_nil)) pe_int) pa_nil)))))), ?_⟩)
  · obtain ⟨_, _, _, _, _, _, rfl, ⟨_, rfl, _⟩, _⟩ := h
    rfl
  · obtain ⟨a, ta, pa, wo, ws, q, rfl, ⟨t, rfl, rfl⟩, W, G, k⟩ := h
    refine ⟨_, rfl, _, rfl, t.x, t.y, rfl, _, rfl, ?_⟩
    have bad : treeBad t → ([V.int (-1)] : List V).length ≤ sizeLine ∧ ∀ D, H D = none → Q (.ref D) (upd H D (.lst [V.int (-1)])) := fun h => by
      obtain ⟨e1, e2⟩ := tree_bad (w := wo) h
      rw [e1, e2] at k
      exact k.one W
    cases hp : decide (t.x ≤ 2000) && decide (t.y ≤ 2000) with
    | false =>
      refine iteT (iteT (bad ?_))
      rw [Bool.and_eq_false_iff, decide_eq_false_iff_not, decide_eq_false_iff_not] at hp
      unfold treeBad Si59.FAR
      omega
    | true =>
      rw [Bool.and_eq_true, decide_eq_true_iff, decide_eq_true_iff] at hp
      refine iteF ⟨_, rfl, _, _, _, rfl, _, rfl, ?_⟩
      cases ht : decide ((1 : Int) ≤ (t.thick : Nat)) && decide (((t.thick : Nat) : Int) ≤ 300) with
      | false =>
        refine iteT (iteT (bad ?_))
        rw [Bool.and_eq_false_iff, decide_eq_false_iff_not, decide_eq_false_iff_not] at ht
        unfold treeBad Si59.FAR Si59.THICK
        omega
      | true =>
        rw [Bool.and_eq_true, decide_eq_true_iff, decide_eq_true_iff] at ht
        refine iteF ⟨_, rfl, _, rfl, _, _, rfl, rfl, _, rfl, ?_⟩
        by_cases hw : ((t.thick : Nat) : Int) ≤ (t.wrong : Nat)
        · rw [decide_eq_true hw]
          refine iteT (bad ?_)
          unfold treeBad
          omega
        · rw [decide_eq_false hw]
          refine iteF ?_
          have good : ¬ treeBad t := by
            unfold treeBad Si59.FAR Si59.THICK
            omega
          obtain ⟨⟨dx, hi⟩, ⟨rt, hrt, hat⟩, hpts, hne⟩ := id W
          have hlt := hat.length
          refine ⟨_, rfl, a, CW, dx, _, _, rfl, hi, T.cw, T.nTrees, wF_trees ta pa, ta, rt.map V.ref, rfl, Or.inl (SqL.of hrt), _, _, rfl, rfl, _, rfl, ?_⟩
          rw [List.length_map, hlt]
          by_cases hf : 12 ≤ wo.trees.length
          · obtain ⟨e1, e2⟩ := tree_full good hf
            rw [e1, e2] at k
            rw [decide_eq_true (show (12 : Int) ≤ (wo.trees.length : Nat) by omega)]
            exact iteT (k.one W)
          · obtain ⟨e1, e2⟩ := tree_good good hf
            rw [e1, e2] at k
            rw [decide_eq_false (show ¬ (12 : Int) ≤ (wo.trees.length : Nat) by omega)]
            refine iteF ?_
            refine ⟨_, rfl, a, CW, dx, _, _, rfl, hi, T.cw, T.nTrees, wF_trees ta pa, Or.inl ⟨rfl, _, SqL.of hrt⟩, _, rfl, _, rfl, _, rfl, _, rfl, ?_⟩
            intro x dy hx hdy hdx
            refine ⟨x, dy, t, rfl, upd_same, fun H2 ht2 kp => ⟨rfl, ?_⟩⟩
            have s2 : Same H H2 := Same.made hx hdy kp
            have hrt2 : H2 ta = some (.lst (rt.map V.ref)) := s2 _ _ hrt
            refine ⟨ta, _, _, rfl, rfl, hrt2, small (m := 11) (by rw [List.length_map]; omega) (by decide), ?_⟩
            -- H3: the list with the new tree
            generalize hH3 : upd H2 ta (.lst (rt.map V.ref ++ [.ref x])) = H3
            have nat : a ≠ ta := ne_of hi hrt (by intro z; cases z)
            have i3 : H3 a = some (.ins CW dx (wF ta pa)) := by
              rw [← hH3]
              exact (upd_ne nat).trans (s2 _ _ hi)
            have t3 : H3 ta = some (.lst ((rt ++ [x]).map V.ref)) := by
              rw [← hH3, upd_same, List.map_append]
              rfl
            have a3 : All2 (TreeAt CT H3) (rt ++ [x]) (wo.trees ++ [t]) := by
              rw [← hH3]
              exact All2.app (hat.mono fun r y q => tree_upd hrt2 (keeps_tree _ _ _ _ s2 q)) (.cons (tree_upd hrt2 ht2) .nil)
            have p3 : RefsAt PtAt H3 pa wo.points := by
              obtain ⟨rp, hrp, hap⟩ := hpts
              rw [← hH3]
              exact ⟨rp, (upd_ne hne.symm).trans (s2 _ _ hrp), hap.mono fun r y q => pt_upd hrt2 (keeps_pt _ _ _ _ s2 q)⟩
            have W3 : WoodAt CT CW H3 a ta pa { wo with trees := wo.trees ++ [t] } := ⟨⟨dx, i3⟩, ⟨_, t3, a3⟩, p3, hne⟩
            refine ⟨_, rfl, a, CW, dx, _, _, rfl, i3, T.cw, T.nTrees, wF_trees ta pa, ta, _, rfl, Or.inl (SqL.of t3), _, _, rfl, rfl, (by show 1 ≤ sizeLine; decide), fun D hD => ?_⟩
            have ev : V.int (((((rt ++ [x]).map V.ref).length : Nat) : Int) - 1) = V.int (wo.trees.length : Nat) := by
              rw [List.length_map, List.length_append, hlt]
              congr 1
              simp
            have hDH : H D = none := by
              cases e : H D with
              | none => rfl
              | some o =>
                by_cases z : D = ta
                · subst z
                  rw [t3] at hD
                  cases hD
                · rw [← hH3, upd_ne z, s2 _ _ e] at hD
                  cases hD
            refine k _ D ta pa (W3.keep (same_upd hD)) (.inl rfl) (.inl rfl) (fun b o e _ hb _ => ?_) hDH (upd_same.trans (congrArg (fun v => some (HO.lst [v])) ev))
            rw [upd_ne (ne_of_none e hDH), ← hH3, upd_ne hb]
            exact s2 _ _ e
abbrev nPoint : List Str := ["self", "x", "y"]
theorem scPoint : FnScope nPoint nPoint (defScope sPoint) := ⟨rfl, rfl, rfl, by decide +kernel, rfl, by decide +kernel, by decide +kernel⟩
theorem point_bad {w : Si59.Wood} {x y : Nat} (h : Si59.FAR < x ∨ Si59.FAR < y) : nextOf w (.point x y) = w ∧ ansOf w (.point x y) = [-1] := by
  have e : Si59.step w (.point x y) = (w, Si59.ok (-1)) := if_pos h
  unfold nextOf ansOf
  rw [e]
  exact ⟨rfl, rfl⟩
theorem point_full {w : Si59.Wood} {x y : Nat} (h : ¬ (Si59.FAR < x ∨ Si59.FAR < y)) (h2 : 8 ≤ w.points.length) : nextOf w (.point x y) = w ∧ ansOf w (.point x y) = [-5] := by
  have e : Si59.step w (.point x y) = (w, Si59.ok (-5)) := (if_neg h).trans (if_pos h2)
  unfold nextOf ansOf
  rw [e]
  exact ⟨rfl, rfl⟩
theorem point_good {w : Si59.Wood} {x y : Nat} (h : ¬ (Si59.FAR < x ∨ Si59.FAR < y)) (h2 : ¬ 8 ≤ w.points.length) : nextOf w (.point x y) = { w with points := w.points ++ [(x, y)] } ∧ ansOf w (.point x y) = [(w.points.length : Int)] := by
  have e : Si59.step w (.point x y) = ({ w with points := w.points ++ [(x, y)] }, Si59.ok w.points.length) := (if_neg h).trans (if_neg h2)
  unfold nextOf ansOf
  rw [e]
  exact ⟨rfl, rfl⟩
theorem ok_point {f : Addr} {fd : FuncData} (F : Fun K "point" "Wood.point" sPoint f fd) (T : Txt K mg CT CW) (c1 : CIsPlace P w K mg base) : FnOk P w K mg base CX0 3 f fd nPoint (spM CT CW relPoint) := by
  refine F.ok scPoint (fun vs H Q E h => ?_) (fun cdv A outer s H vs Q E hr h => ⟨_,
    pss_cons (ps_if (pt_not (pt_val (pe_by c1 hr (by rfl) (pa_cons (pv 1) (pa_cons (pv 2) pa_nil))))) (pss_one (ps_ret (pe_lst (pa_cons (pe_const T.cNot (by rfl)) pa_nil)))) pss_nil)
      (pss_cons (ps_if (pt_cmpR op_ge (pe_callB (r := rLen K) call_len_seq (by rfl) T.len PySem.boot_len (pa_cons (pe_fld (pv 0) rfl) pa_nil)) (pe_const T.cPoints (by rfl)) (nomark _))
        (pss_one (ps_ret (pe_lst (pa_cons (pe_const T.cFull (by rfl)) pa_nil)))) pss_nil)
      (pss_cons (ps_expr (pe_bm PySem.F.plainAttrs_list PySem.F.slot_list_append PySem.F.type_list_append mt_append (pe_fld (pv 0) rfl) (pa_cons (pe_tup (pa_cons (pv 1) (pa_cons (pv 2) pa_nil))) pa_nil)))
      (pss_one (ps_ret (pe_lst (pa_cons (pe_op op_sub (pe_callB (r := rLen K) call_len_seq (by rfl) T.len PySem.boot_len (pa_cons (pe_fld (pv 0) rfl) pa_nil)) pe_int) pa_nil)))))), ?_⟩)
  · obtain ⟨_, _, _, _, _, _, rfl, ⟨_, _, rfl, _⟩, _⟩ := h
    rfl
  · obtain ⟨a, ta, pa, wo, ws, q, rfl, ⟨px, py, rfl, rfl⟩, W, G, k⟩ := h
    refine ⟨_, rfl, _, rfl, px, py, rfl, _, rfl, ?_⟩
    cases hp : decide (px ≤ 2000) && decide (py ≤ 2000) with
    | false =>
      rw [Bool.and_eq_false_iff, decide_eq_false_iff_not, decide_eq_false_iff_not] at hp
      obtain ⟨e1, e2⟩ := point_bad (w := wo) (x := px) (y := py) (by unfold Si59.FAR; omega)
      rw [e1, e2] at k
      exact iteT (k.one W)
    | true =>
      rw [Bool.and_eq_true, decide_eq_true_iff, decide_eq_true_iff] at hp
      refine iteF ?_
      have good : ¬ (Si59.FAR < px ∨ Si59.FAR < py) := by
        unfold Si59.FAR
        omega
      obtain ⟨⟨dx, hi⟩, htr, ⟨rp, hrp, hap⟩, hne⟩ := id W
      have hlp := hap.length
      refine ⟨_, rfl, a, CW, dx, _, _, rfl, hi, T.cw, T.nPoints, wF_points ta pa, pa, rp.map V.ref, rfl, Or.inl (SqL.of hrp), _, _, rfl, rfl, _, rfl, ?_⟩
      rw [List.length_map, hlp]
      by_cases hf : 8 ≤ wo.points.length
      · obtain ⟨e1, e2⟩ := point_full good hf
        rw [e1, e2] at k
        rw [decide_eq_true (show (8 : Int) ≤ (wo.points.length : Nat) by omega)]
        exact iteT (k.one W)
      · obtain ⟨e1, e2⟩ := point_good good hf
        rw [e1, e2] at k
        rw [decide_eq_false (show ¬ (8 : Int) ≤ (wo.points.length : Nat) by omega)]
        refine iteF ?_
        refine ⟨_, rfl, a, CW, dx, _, _, rfl, hi, T.cw, T.nPoints, wF_points ta pa, Or.inl ⟨rfl, _, SqL.of hrp⟩, _, rfl, _, rfl, (by show 2 ≤ sizeLine; decide), fun x hx => ?_⟩
        have s2 : Same H (upd H x (.tup [vn px, vn py])) := same_upd hx
        generalize hH2 : upd H x (.tup [vn px, vn py]) = H2 at *
        have hx2 : PtAt H2 x (px, py) := by
          rw [← hH2]
          exact upd_same
        have hrp2 : H2 pa = some (.lst (rp.map V.ref)) := s2 _ _ hrp
        refine ⟨pa, _, _, rfl, rfl, hrp2, small (m := 7) (by rw [List.length_map]; omega) (by decide), ?_⟩
        generalize hH3 : upd H2 pa (.lst (rp.map V.ref ++ [.ref x])) = H3
        have nap : a ≠ pa := ne_of hi hrp (by intro z; cases z)
        have i3 : H3 a = some (.ins CW dx (wF ta pa)) := by
          rw [← hH3]
          exact (upd_ne nap).trans (s2 _ _ hi)
        have p3 : H3 pa = some (.lst ((rp ++ [x]).map V.ref)) := by
          rw [← hH3, upd_same, List.map_append]
          rfl
        have a3 : All2 (PtAt H3) (rp ++ [x]) (wo.points ++ [(px, py)]) := by
          rw [← hH3]
          exact All2.app (hap.mono fun r y q => pt_upd hrp2 (keeps_pt _ _ _ _ s2 q)) (.cons (pt_upd hrp2 hx2) .nil)
        have t3 : RefsAt (TreeAt CT) H3 ta wo.trees := by
          obtain ⟨rt, hrt, hat⟩ := htr
          rw [← hH3]
          exact ⟨rt, (upd_ne hne).trans (s2 _ _ hrt), hat.mono fun r y q => tree_upd hrp2 (keeps_tree _ _ _ _ s2 q)⟩
        have W3 : WoodAt CT CW H3 a ta pa { wo with points := wo.points ++ [(px, py)] } := ⟨⟨dx, i3⟩, t3, ⟨_, p3, a3⟩, hne⟩
        refine ⟨_, rfl, a, CW, dx, _, _, rfl, i3, T.cw, T.nPoints, wF_points ta pa, pa, _, rfl, Or.inl (SqL.of p3), _, _, rfl, rfl, (by show 1 ≤ sizeLine; decide), fun D hD => ?_⟩
        have ev : V.int (((((rp ++ [x]).map V.ref).length : Nat) : Int) - 1) = V.int (wo.points.length : Nat) := by
          rw [List.length_map, List.length_append, hlp]
          congr 1
          simp
        have hDH : H D = none := by
          cases e : H D with
          | none => rfl
          | some o =>
            by_cases z : D = pa
            · subst z
              rw [p3] at hD
              cases hD
            · rw [← hH3, upd_ne z, s2 _ _ e] at hD
              cases hD
        refine k _ D ta pa (W3.keep (same_upd hD)) (.inl rfl) (.inl rfl) (fun b o e _ _ hb => ?_) hDH (upd_same.trans (congrArg (fun v => some (HO.lst [v])) ev))
        rw [upd_ne (ne_of_none e hDH), ← hH3, upd_ne hb]
        exact s2 _ _ e

/-! ### count -/
abbrev CSure (P : Program) (w : World) (K : PySem.W.Frag) (mg : Str → Option Value) (base : Heap) (CT : Addr) : Prop := Callee P w K mg base 3 "sure_ones" pOnes (spSureOnes CT)
abbrev CPoss (P : Program) (w : World) (K : PySem.W.Frag) (mg : Str → Option Value) (base : Heap) (CT : Addr) : Prop := Callee P w K mg base 3 "possible_ones" pOnes (spPossOnes CT)
abbrev nCount : List Str := ["self", "p", "k", "sure", "possible"]
theorem scCount : FnScope nCount ["self", "p", "k"] (defScope sCount) := ⟨rfl, rfl, rfl, by decide +kernel, rfl, by decide +kernel, by decide +kernel⟩
theorem factor_le {k : Nat} (h : Si59.factor k = true) : k ≤ 1000 := by
  unfold Si59.factor Si59.FACTOR at h
  rw [Bool.and_eq_true, decide_eq_true_iff, decide_eq_true_iff] at h
  exact h.2
theorem count_none {w : Si59.Wood} {p k : Nat} (h : w.points.length ≤ p) : nextOf w (.count p k) = w ∧ ansOf w (.count p k) = [-2] := by
  have e : Si59.step w (.count p k) = (w, Si59.ok (-2)) := if_pos h
  unfold nextOf ansOf
  rw [e]
  exact ⟨rfl, rfl⟩
theorem count_bad {w : Si59.Wood} {p k : Nat} (h : ¬ w.points.length ≤ p) (hk : Si59.factor k = false) : nextOf w (.count p k) = w ∧ ansOf w (.count p k) = [-1] := by
  have e : Si59.step w (.count p k) = (w, Si59.ok (-1)) := (if_neg h).trans (if_pos hk)
  unfold nextOf ansOf
  rw [e]
  exact ⟨rfl, rfl⟩
theorem count_good {w : Si59.Wood} {p k : Nat} (h : ¬ w.points.length ≤ p) (hk : ¬ Si59.factor k = false) : nextOf w (.count p k) = w ∧
    ansOf w (.count p k) = (((sureL w.trees (w.point p) k).length : Nat) : Int) :: Si59.ints (((maybeL w.trees (w.point p) k).length - (sureL w.trees (w.point p) k).length) :: sureL w.trees (w.point p) k) := by
  have e : Si59.step w (.count p k) = (w, ⟨((w.surely k p).length : Nat), Si59.ints (((w.perhaps k p).length - (w.surely k p).length) :: w.surely k p)⟩) := (if_neg h).trans (if_neg hk)
  unfold nextOf ansOf
  rw [e]
  exact ⟨rfl, rfl⟩
theorem ok_count {f : Addr} {fd : FuncData} (F : Fun K "count" "Wood.count" sCount f fd) (T : Txt K mg CT CW) (c1 : CIsFactor P w K mg base) (c2 : CSure P w K mg base CT) (c3 : CPoss P w K mg base CT) :
    FnOk P w K mg base CX0 4 f fd ["self", "p", "k"] (spM CT CW relCount) := by
  refine F.ok scCount (fun vs H Q E h => ?_) (fun cdv A outer s H vs Q E hr h => ⟨_,
    pss_cons (ps_if (pt_cmpR op_ge (pv 1) (pe_callB (r := rLen K) call_len_seq (by rfl) T.len PySem.boot_len (pa_cons (pe_fld (pv 0) rfl) pa_nil)) (nomark _)) (pss_one (ps_ret (pe_lst (pa_cons (pe_const T.cNoPoint (by rfl)) pa_nil)))) pss_nil)
      (pss_cons (ps_if (pt_not (pt_val (pe_by c1 (hr.mono (by decide)) (by rfl) (pa_cons (pv 2) pa_nil)))) (pss_one (ps_ret (pe_lst (pa_cons (pe_const T.cNot (by rfl)) pa_nil)))) pss_nil)
      (pss_cons (ps_set (i := 3) scCount.nd rfl (Or.inl rfl) (pe_by c2 hr (by rfl) (pa_cons (pe_fld (pv 0) rfl) (pa_cons (pe_ix ix_list (pe_fld (pv 0) rfl) (pv 1) (fun _ _ => rfl)) (pa_cons (pv 2) pa_nil)))))
      (pss_cons (ps_set (i := 4) scCount.nd rfl (Or.inl rfl) (pe_by c3 hr (by rfl) (pa_cons (pe_fld (pv 0) rfl) (pa_cons (pe_ix ix_list (pe_fld (pv 0) rfl) (pv 1) (fun _ _ => rfl)) (pa_cons (pv 2) pa_nil)))))
      (pss_one (ps_ret (pe_op op_cat (pe_lst (pa_cons (pe_callB (r := rLen K) call_len_seq (by rfl) T.len PySem.boot_len (pa_cons (pv 3) pa_nil))
        (pa_cons (pe_op op_sub (pe_callB (r := rLen K) call_len_seq (by rfl) T.len PySem.boot_len (pa_cons (pv 4) pa_nil)) (pe_callB (r := rLen K) call_len_seq (by rfl) T.len PySem.boot_len (pa_cons (pv 3) pa_nil))) pa_nil))) (pv 3))))))), ?_⟩)
  · obtain ⟨_, _, _, _, _, _, rfl, ⟨_, _, rfl, _⟩, _⟩ := h
    rfl
  · obtain ⟨a, ta, pa, wo, ws, q, rfl, ⟨p, fk, rfl, rfl⟩, W, G, k⟩ := h
    obtain ⟨⟨dx, hi⟩, htr, ⟨rp, hrp, hap⟩, hne⟩ := id W
    have hlp := hap.length
    refine ⟨_, rfl, _, rfl, a, CW, dx, _, _, rfl, hi, T.cw, T.nPoints, wF_points ta pa, pa, rp.map V.ref, rfl, Or.inl (SqL.of hrp), _, _, rfl, rfl, _, rfl, ?_⟩
    rw [List.length_map, hlp]
    by_cases hp : wo.points.length ≤ p
    · obtain ⟨e1, e2⟩ := count_none (k := fk) hp
      rw [e1, e2] at k
      rw [decide_eq_true (show ((wo.points.length : Nat) : Int) ≤ (p : Nat) by omega)]
      exact iteT (k.one W)
    · rw [decide_eq_false (show ¬ ((wo.points.length : Nat) : Int) ≤ (p : Nat) by omega)]
      refine iteF ⟨_, rfl, fk, rfl, _, rfl, ?_⟩
      cases hk : Si59.factor fk with
      | false =>
        obtain ⟨e1, e2⟩ := count_bad hp hk
        rw [e1, e2] at k
        exact iteT (k.one W)
      | true =>
        obtain ⟨e1, e2⟩ := count_good (w := wo) hp (k := fk) (by rw [hk]; exact fun z => by cases z)
        rw [e1, e2] at k
        refine iteF ?_
        have pl : p < wo.points.length := by omega
        have hpt : wo.points[p]? = some (wo.point p) := by
          unfold Si59.Wood.point
          simp [List.getD_eq_getElem?_getD, pl]
        generalize wo.point p = pp at *
        obtain ⟨b, hb, hpb⟩ := hap.at hpt
        have gp : GoodP pp := G.pt pp (List.mem_of_getElem? hpt)
        have gt : ∀ t ∈ wo.trees, GoodT t := G.tr
        have kl := factor_le hk
        have hget : (rp.map V.ref)[p]? = some (.ref b) := by
          rw [List.getElem?_map, hb]
          rfl
        refine ⟨_, rfl, a, CW, dx, _, _, rfl, hi, T.cw, T.nTrees, wF_trees ta pa, _, rfl, a, CW, dx, _, _, rfl, hi, T.cw, T.nPoints, wF_points ta pa, _, rfl, pa, _, _, _, rfl, rfl, SqL.of hrp, atI_nat hget, _, rfl, ?_⟩
        refine ⟨ta, b, wo.trees, pp, fk, rfl, htr, hpb, gt, G.nt, gp, kl, fun H1 D1 s1 hD1 hn1 => ?_⟩
        refine ⟨_, rfl, a, CW, dx, _, _, rfl, s1 _ _ hi, T.cw, T.nTrees, wF_trees ta pa, _, rfl, a, CW, dx, _, _, rfl, s1 _ _ hi, T.cw, T.nPoints, wF_points ta pa, _, rfl, pa, _, _, _, rfl, rfl, SqL.of (s1 _ _ hrp), atI_nat hget, _, rfl, ?_⟩
        refine ⟨ta, b, wo.trees, pp, fk, rfl, htr.keep keeps_tree s1, s1 _ _ hpb, gt, G.nt, gp, kl, fun H2 D2 s2 hD2 hn2 => ?_⟩
        have hn12 : NatsAt H2 D1 _ := s2 _ _ hn1
        have l1 := sureL_len wo.trees pp fk
        have l2 := sureL_le wo.trees pp fk
        have ntl := G.nt
        generalize sureL wo.trees pp fk = su at *
        generalize maybeL wo.trees pp fk = ma at *
        refine ⟨_, rfl, D1, su.map vn, rfl, Or.inl (SqL.of hn12), _, rfl, D2, ma.map vn, rfl, Or.inl (SqL.of hn2), _, rfl, D1, su.map vn, rfl, Or.inl (SqL.of hn12), _, _, rfl, rfl, (by show 2 ≤ sizeLine; decide), fun p1 hp1 => ?_⟩
        refine ⟨_, rfl, p1, D1, _, su.map vn, rfl, rfl, upd_same, (same_upd hp1) _ _ hn12, ?_, fun D hD => ?_⟩
        · rw [List.length_map]
          exact Nat.le_of_lt (small (m := 14) (by simp; omega) (by decide))
        · refine k.same W ((s1.trans s2).trans ((same_upd hp1).trans (same_upd hD))) (((s1.trans s2).trans (same_upd hp1)).free hD) ?_
          rw [upd_same]
          refine congrArg (fun q => some (HO.lst q)) ?_
          unfold Si59.ints
          rw [List.length_map, List.length_map, List.map_cons, List.map_cons, List.map_cons, map_vn]
          have e3 : (((ma.length : Nat) : Int) - (su.length : Nat)) = ((ma.length - su.length : Nat) : Int) := by omega
          show [V.int ((su.length : Nat) : Int), V.int (((ma.length : Nat) : Int) - (su.length : Nat))] ++ su.map vn = _
          rw [e3]
          rfl
end
end My

set_option Elab.async false
set_option maxRecDepth 100000
set_option maxHeartbeats 4000000
/-! # The walk, part 5: worth, most, cover, once -/
namespace My
open PySem PySem.Spec PyProof.Rows L2

/-! ### a list of data, against the empty list -/
section
variable {α : Type} {K : PySem.W.Frag} {H : Hp} {R : Addr → α → Prop} {dt : α → PyData}
theorem dp_all (hR : ∀ r x, R r x → Dp K H (.ref r) (dt x)) : ∀ {rs : List Addr} {xs : List α}, All2 R rs xs → DpAll K H (rs.map V.ref) (xs.map dt)
  | _, _, .nil => .nil
  | _, _, .cons h t => .cons (hR _ _ h) (dp_all hR t)
theorem canLay_map (h : ∀ x, (dt x).canLay0 = true) : ∀ xs : List α, PyData.canLayAll0 (xs.map dt) = true
  | [] => by simp [PyData.canLayAll0]
  | x :: r => by simp [PyData.canLayAll0, h x, canLay_map h r]
theorem depth_map {b : Nat} (h : ∀ x, (dt x).depth ≤ b) : ∀ xs : List α, PyData.depthAll (xs.map dt) ≤ b
  | [] => by simp [PyData.depthAll]
  | x :: r => by
    have ih := depth_map h r
    have hx := h x
    simp only [List.map_cons, PyData.depthAll]
    omega
theorem shaped_map {b : Nat} (h1 : ∀ x, (dt x).canLay0 = true) (h2 : ∀ x, (dt x).depth ≤ b) (hb : b < 64) (xs : List α) : SeqAt.shaped (.list (xs.map dt)) = true := by
  unfold SeqAt.shaped
  have a := canLay_map h1 xs
  have c := depth_map h2 xs
  simp only [PyData.canLay0, PyData.depth, a, Bool.true_and]
  exact decide_eq_true (by omega)
theorem eqv_empty (xs : List α) : PyData.eqv (.list (xs.map dt)) (.list []) = xs.isEmpty := by
  cases xs <;> simp [PyData.eqv, PyData.eqvAll]
end
def dP (p : Nat × Nat) : PyData := .tuple [.int (p.1 : Nat), .int (p.2 : Nat)]
def dI (n : Nat) : PyData := .int (n : Nat)
def dN (c : List Nat) : PyData := .list (c.map dI)
theorem dP_dp {K : PySem.W.Frag} {H : Hp} (r : Addr) (p : Nat × Nat) (h : PtAt H r p) : Dp K H (.ref r) (dP p) := .tup (SqT.of h) (.cons (.int _) (.cons (.int _) .nil))
theorem dI_all {K : PySem.W.Frag} {H : Hp} : ∀ c : List Nat, DpAll K H (c.map vn) (c.map dI)
  | [] => .nil
  | _ :: r => .cons (.int _) (dI_all r)
theorem dN_dp {K : PySem.W.Frag} {H : Hp} (r : Addr) (c : List Nat) (h : NatsAt H r c) : Dp K H (.ref r) (dN c) := .lst (SqL.of h) (dI_all c)
theorem dP_can (p : Nat × Nat) : (dP p).canLay0 = true := by simp [dP, PyData.canLay0, PyData.canLayAll0]
theorem dP_depth (p : Nat × Nat) : (dP p).depth ≤ 1 := by simp [dP, PyData.depth, PyData.depthAll]
theorem dN_can (c : List Nat) : (dN c).canLay0 = true := by
  have := canLay_map (dt := dI) (fun x => by simp [dI, PyData.canLay0]) c
  simp only [dN, PyData.canLay0, this]
theorem dN_depth (c : List Nat) : (dN c).depth ≤ 1 := by
  have := depth_map (dt := dI) (b := 0) (fun x => by simp [dI, PyData.depth]) c
  simp only [dN, PyData.depth]
  omega
theorem shaped_nil : SeqAt.shaped (.list []) = true := shaped_map dP_can dP_depth (by decide) []
theorem map_take {α β : Type} {l : List α} {i : Nat} {x : α} (f : α → β) (h : l[i]? = some x) : (l.take (i + 1)).map f = (l.take i).map f ++ [f x] := by
  rw [take_more h, List.map_append]
  rfl
theorem sum_cast : ∀ l : List Nat, (l.map fun n : Nat => (n : Int)).sum = ((l.sum : Nat) : Int)
  | [] => rfl
  | a :: r => by
    rw [List.map_cons, List.sum_cons, List.sum_cons, sum_cast r]
    rfl
theorem sorted_nats {ns : List Int} {l : List Nat} (hp : ns.Perm (l.map fun n : Nat => (n : Int))) (hs : ns.Pairwise (· ≤ ·)) : ∃ s : List Nat, ns = s.map (fun n : Nat => (n : Int)) ∧ s.Perm l ∧ s.Pairwise (· ≤ ·) := by
  refine ⟨ns.map Int.toNat, ?_, ?_, ?_⟩
  · rw [List.map_map]
    refine (List.map_id ns).symm.trans (List.map_congr_left fun z hz => ?_)
    obtain ⟨n, _, rfl⟩ := List.mem_map.mp (hp.mem_iff.mp hz)
    rfl
  · have q := hp.map Int.toNat
    rw [List.map_map] at q
    have e : l.map (Int.toNat ∘ fun n : Nat => (n : Int)) = l := (List.map_congr_left fun n _ => rfl).trans (List.map_id l)
    rw [e] at q
    exact q
  · rw [List.pairwise_map]
    exact hs.imp fun h => by omega

section
variable {P : Program} {w : World} {K : PySem.W.Frag} {mg : Str → Option Value} {base : Heap} {CT CW : Addr}
/-! ### worth -/
abbrev nWorth : List Str := ["self", "k", "many", "point"]
theorem scWorth : FnScope nWorth ["self", "k"] (defScope sWorth) := ⟨rfl, rfl, rfl, by decide +kernel, rfl, by decide +kernel, by decide +kernel⟩
theorem worth_bad {w : Si59.Wood} {k : Nat} (hk : Si59.factor k = false) : nextOf w (.worth k) = w ∧ ansOf w (.worth k) = [-1] := by
  have e : Si59.step w (.worth k) = (w, Si59.ok (-1)) := if_pos hk
  unfold nextOf ansOf
  rw [e]
  exact ⟨rfl, rfl⟩
theorem worth_none {w : Si59.Wood} {k : Nat} (hk : ¬ Si59.factor k = false) (h : w.points = []) : nextOf w (.worth k) = w ∧ ansOf w (.worth k) = [-6] := by
  have e : Si59.step w (.worth k) = (w, Si59.ok (-6)) := (if_neg hk).trans (if_pos h)
  unfold nextOf ansOf
  rw [e]
  exact ⟨rfl, rfl⟩
theorem worth_good {w : Si59.Wood} {k : Nat} (hk : ¬ Si59.factor k = false) (h : ¬ w.points = []) : nextOf w (.worth k) = w ∧
    ansOf w (.worth k) = 0 :: Si59.ints [k * Si59.total w k / Nat.gcd (k * Si59.total w k) w.points.length, w.points.length / Nat.gcd (k * Si59.total w k) w.points.length] := by
  have e : Si59.step w (.worth k) = (w, ⟨0, Si59.ints [k * Si59.total w k / Nat.gcd (k * Si59.total w k) w.points.length, w.points.length / Nat.gcd (k * Si59.total w k) w.points.length]⟩) := (if_neg hk).trans (if_neg h)
  unfold nextOf ansOf
  rw [e]
  exact ⟨rfl, rfl⟩
theorem ok_worth {f : Addr} {fd : FuncData} (F : Fun K "worth" "Wood.worth" sWorth f fd) (T : Txt K mg CT CW) (c1 : CIsFactor P w K mg base) (c2 : CSure P w K mg base CT) (c3 : Callee P w K mg base 2 "fraction" ["top", "bottom"] spFraction) :
    FnOk P w K mg base CX0 4 f fd ["self", "k"] (spM CT CW relWorth) := by
  refine F.ok scWorth (fun vs H Q E h => ?_) (fun cdv A outer s H vs Q E hr h => ⟨_,
    pss_cons (ps_if (pt_not (pt_val (pe_by c1 (hr.mono (by decide)) (by rfl) (pa_cons (pv 1) pa_nil)))) (pss_one (ps_ret (pe_lst (pa_cons (pe_const T.cNot (by rfl)) pa_nil)))) pss_nil)
      (pss_cons (ps_if (pt_cmpR (op_eqD hr.units) (pe_fld (pv 0) rfl) (pe_lst pa_nil) (nomark _)) (pss_one (ps_ret (pe_lst (pa_cons (pe_const T.cNotSo (by rfl)) pa_nil)))) pss_nil)
      (pss_cons (ps_set (i := 2) scWorth.nd rfl (Or.inl rfl) (pe_callB (cr_sum rfl) (by rfl) T.sum (by decide +kernel) (pa_cons
          (pe_lc (own := [("point", 3)]) (g := gName 3) rfl scWorth.nd (pi_list (pe_fld (pv 0) rfl)) (blkOk_by (N := nWorth) (sc := defScope sWorth) (by decide +kernel))
            (fun _ _ _ _ _ => pg_name (i := 3) scWorth.nd rfl (Or.inl rfl)) (fun _ _ _ _ _ => pts_nil)
            (fun _ _ _ _ _ => pe_callB (r := rLen K) call_len_seq (by rfl) T.len PySem.boot_len (pa_cons (pe_by c2 hr (by rfl) (pa_cons (pe_fldK (K := K) (pv 0) rfl rfl) (pa_cons (pv 3) (pa_cons (pv 1) pa_nil)))) pa_nil))) pa_nil)))
      (pss_one (ps_ret (pe_op op_cat (pe_lst (pa_cons pe_int pa_nil)) (pe_by c3 (hr.mono (by decide)) (by rfl) (pa_cons (pe_op op_mul (pv 1) (pv 2)) (pa_cons (pe_callB (r := rLen K) call_len_seq (by rfl) T.len PySem.boot_len (pa_cons (pe_fld (pv 0) rfl) pa_nil)) pa_nil)))))))), ?_⟩)
  · obtain ⟨_, _, _, _, _, _, rfl, ⟨_, rfl, _⟩, _⟩ := h
    rfl
  · obtain ⟨a, ta, pa, wo, ws, q, rfl, ⟨fk, rfl, rfl⟩, W, G, k⟩ := h
    refine ⟨_, rfl, fk, rfl, _, rfl, ?_⟩
    cases hk : Si59.factor fk with
    | false =>
      obtain ⟨e1, e2⟩ := worth_bad (w := wo) hk
      rw [e1, e2] at k
      exact iteT (k.one W)
    | true =>
      have hk' : ¬ Si59.factor fk = false := by
        rw [hk]
        exact fun z => by cases z
      refine iteF ?_
      obtain ⟨⟨dx, hi⟩, htr, ⟨rp, hrp, hap⟩, hne⟩ := id W
      have hlp := hap.length
      refine ⟨_, rfl, a, CW, dx, _, _, rfl, hi, T.cw, T.nPoints, wF_points ta pa, by decide, fun p0 hp0 => ?_⟩
      have s0 : Same H (upd H p0 (.lst [])) := same_upd hp0
      have hap0 : All2 (PtAt (upd H p0 (.lst []))) rp wo.points := hap.mono fun r x q => keeps_pt _ _ _ _ s0 q
      refine ⟨.list (wo.points.map dP), .list [], .lst (SqL.of (s0 _ _ hrp)) (dp_all dP_dp hap0), .lst (SqL.of upd_same) .nil, shaped_map dP_can dP_depth (by decide) _, shaped_nil, _, rfl, ?_⟩
      rw [eqv_empty]
      generalize upd H p0 (.lst []) = H0 at *
      by_cases hemp : wo.points = []
      · obtain ⟨e1, e2⟩ := worth_none hk' hemp
        rw [e1, e2] at k
        rw [hemp]
        refine iteT ⟨(by show 1 ≤ sizeLine; decide), fun D hD => ?_⟩
        exact k.same W (s0.trans (same_upd hD)) (s0.free hD) upd_same
      · have hie : wo.points.isEmpty = false := by
          cases e : wo.points with
          | nil => exact absurd e hemp
          | cons _ _ => rfl
        obtain ⟨e1, e2⟩ := worth_good hk' hemp
        rw [e1, e2] at k
        rw [hie]
        refine iteF ?_
        have kl := factor_le hk
        have gt : ∀ t ∈ wo.trees, GoodT t := G.tr
        have np := G.np
        refine ⟨_, rfl, a, CW, dx, _, _, rfl, s0 _ _ hi, T.cw, T.nPoints, wF_points ta pa, pa, rfl, ⟨_, SqL.of (s0 _ _ hrp)⟩, fun D hD => lc_it (walk_list (K := K) (a := pa) (xs := rp.map V.ref))
          (fun i H' => Acc H0 D ((((wo.points.take i).map fun p => (sureL wo.trees p fk).length).map fun n : Nat => (n : Int)).map V.int) H') (Acc.start hD) (fun i H' _ ac => SqL.of (ac.2 _ _ (s0 _ _ hrp))) ?_ ?_⟩
        · rintro i x H5 H6 hj ac ⟨rfl, hx⟩
          obtain ⟨b, hb, rfl⟩ := map_ref_get hx
          obtain ⟨pp, hpp, hpb⟩ := hap0.get hb
          refine ⟨rfl, _, rfl, a, CW, dx, _, _, rfl, ac.2 _ _ (s0 _ _ hi), T.cw, T.nTrees, wF_trees ta pa, _, rfl, _, rfl, ?_⟩
          refine ⟨ta, b, wo.trees, pp, fk, rfl, htr.keep keeps_tree (s0.trans ac.2), ac.2 _ _ hpb, gt, G.nt, G.pt pp (List.mem_of_getElem? hpp), kl, fun H7 D7 s7 hD7 hn7 => ?_⟩
          refine ⟨D7, _, rfl, Or.inl (SqL.of hn7), ?_⟩
          rw [map_take _ hpp, List.map_append, List.map_append, List.length_map]
          refine ac.push hD s7 _ ?_
          rw [List.length_map, List.length_map, List.length_map]
          exact small (m := 8) (Nat.le_trans (take_le _ _) np) (by decide)
        · intro H5 ac
          rw [List.length_map, hlp, List.take_length] at ac
          refine ⟨D, _, rfl, SqL.of ac.1, ?_⟩
          rw [sum_cast, ← total_is]
          have s5 : Same H H5 := s0.trans ac.2
          have tl := total_le fk G.np G.nt
          generalize Si59.total wo fk = tt at *
          refine ⟨(by show 1 ≤ sizeLine; decide), fun l0 hl0 => ?_⟩
          have s6 : Same H5 (upd H5 l0 (.lst [V.int 0])) := same_upd hl0
          have s56 := s5.trans s6
          refine ⟨_, rfl, _, rfl, _, _, rfl, rfl, Or.inl ⟨by omega, by omega⟩, _, rfl, a, CW, dx, _, _, rfl, s56 _ _ hi, T.cw, T.nPoints, wF_points ta pa, pa, _, rfl, Or.inl (SqL.of (s56 _ _ hrp)), ?_⟩
          rw [List.length_map, hlp]
          have lp : 0 < wo.points.length := List.length_pos_iff.mpr hemp
          refine ⟨fk * tt, wo.points.length, rfl, lp, by omega, fun p1 hp1 => ?_⟩
          have s7 := same_upd (o := .lst [vn (fk * tt / Nat.gcd (fk * tt) wo.points.length), vn (wo.points.length / Nat.gcd (fk * tt) wo.points.length)]) hp1
          refine ⟨l0, p1, _, _, rfl, rfl, s7 _ _ upd_same, upd_same, (by show 3 ≤ sizeLine; decide), fun D2 hD2 => ?_⟩
          refine k.same W ((s56.trans s7).trans (same_upd hD2)) ((s56.trans s7).free hD2) ?_
          rw [upd_same]
          rfl

/-! ### most_at, most -/
abbrev nMostAt : List Str := ["self", "point", "n", "factors", "tree"]
def spMostAt (CT CW : Addr) : Sp := fun vs H Q _ => ∃ (a ta pa b : Addr) (w : Si59.Wood) (p : Nat × Nat) (n : Nat), vs = [.ref a, .ref b, vn n] ∧ WoodAt CT CW H a ta pa w ∧ Good w ∧ PtAt H b p ∧ GoodP p ∧ ∀ H' : Hp, Same H H' → Q (vn (mostAt w.trees p n)) H'
theorem scMostAt : FnScope nMostAt ["self", "point", "n"] (defScope sMostAt) := ⟨rfl, rfl, rfl, by decide +kernel, rfl, by decide +kernel, by decide +kernel⟩
theorem ok_mostat {f : Addr} {fd : FuncData} (F : Fun K "most_at" "Wood.most_at" sMostAt f fd) (T : Txt K mg CT CW) (c1 : Callee P w K mg base 2 "greatest_factor" ["tree", "point"] (spGreatest CT)) :
    FnOk P w K mg base CX0 3 f fd ["self", "point", "n"] (spMostAt CT CW) := by
  refine F.ok scMostAt (fun vs H Q E h => ?_) (fun cdv A outer s H vs Q E hr h => ⟨_,
    pss_cons (ps_set (i := 3) scMostAt.nd rfl (Or.inl rfl) (pe_callB cr_sorted (by rfl) T.sorted (by decide +kernel) (pa_cons
        (pe_lc (own := [("tree", 4)]) (g := gName 4) rfl scMostAt.nd (pi_list (pe_fld (pv 0) rfl)) (blkOk_by (N := nMostAt) (sc := defScope sMostAt) (by decide +kernel))
          (fun _ _ _ _ _ => pg_name (i := 4) scMostAt.nd rfl (Or.inl rfl)) (fun _ _ _ _ _ => pts_nil)
          (fun _ _ _ _ _ => pe_by c1 hr (by rfl) (pa_cons (pv 4) (pa_cons (pv 1) pa_nil)))) pa_nil)))
      (pss_cons (ps_if (pt_cmpR op_eq (pv 2) pe_int (nomark _)) (pss_one (ps_ret (pe_const T.cFactor (by rfl)))) pss_nil)
      (pss_cons (ps_if (pt_cmpR op_gt (pv 2) (pe_callB (r := rLen K) call_len_seq (by rfl) T.len PySem.boot_len (pa_cons (pv 3) pa_nil)) (nomark _)) (pss_one (ps_ret pe_int)) pss_nil)
      (pss_one (ps_ret (pe_ix ix_list (pv 3) (pe_op op_sub (pe_callB (r := rLen K) call_len_seq (by rfl) T.len PySem.boot_len (pa_cons (pv 3) pa_nil)) (pv 2)) (fun _ _ => rfl)))))), ?_⟩)
  · obtain ⟨_, _, _, _, _, _, _, rfl, _⟩ := h
    rfl
  · obtain ⟨a, ta, pa, b, wo, p, n, rfl, W, G, hb, gp, k⟩ := h
    obtain ⟨⟨dx, hi⟩, ⟨rt, hrt, hat⟩, hpts, hne⟩ := id W
    have hlt := hat.length
    have nt := G.nt
    refine ⟨_, rfl, a, CW, dx, _, _, rfl, hi, T.cw, T.nTrees, wF_trees ta pa, ta, rfl, ⟨_, SqL.of hrt⟩, fun D hD => lc_it (walk_list (K := K) (a := ta) (xs := rt.map V.ref))
      (fun i H' => Acc H D ((((wo.trees.take i).map fun t => gf t p).map fun n : Nat => (n : Int)).map V.int) H') (Acc.start hD) (fun i H' _ ac => SqL.of (ac.2 _ _ hrt)) ?_ ?_⟩
    · rintro i x H5 H6 hj ac ⟨rfl, hx⟩
      obtain ⟨r, hr1, rfl⟩ := map_ref_get hx
      obtain ⟨t, ht, htd⟩ := hat.get hr1
      refine ⟨rfl, _, rfl, _, rfl, r, b, t, p, rfl, keeps_tree _ _ _ _ ac.2 htd, ac.2 _ _ hb, G.tr t (List.mem_of_getElem? ht), gp, ?_⟩
      rw [map_take _ ht, List.map_append, List.map_append]
      refine ac.push hD (Same.refl _) _ ?_
      rw [List.length_map, List.length_map, List.length_map]
      exact small (m := 12) (Nat.le_trans (take_le _ _) nt) (by decide)
    · intro H5 ac
      rw [List.length_map, hlt, List.take_length] at ac
      refine ⟨D, _, rfl, SqL.of ac.1, ?_, fun ns l hperm hsort hl => ?_⟩
      · rw [List.length_map, List.length_map]
        omega
      · obtain ⟨so, rfl, hp2, hs2⟩ := sorted_nats hperm hsort
        have hls : so.length = wo.trees.length := by rw [hp2.length_eq, List.length_map]
        have sl : Same H (upd H5 l (.lst ((so.map fun n : Nat => (n : Int)).map V.int))) := ac.2.trans (same_upd hl)
        have hlat : upd H5 l (.lst ((so.map fun n : Nat => (n : Int)).map V.int)) l = some (.lst (so.map vn)) := by
          rw [upd_same, map_vn]
        generalize upd H5 l (.lst ((so.map fun n : Nat => (n : Int)).map V.int)) = H6 at *
        refine ⟨_, rfl, rfl, _, rfl, ?_⟩
        by_cases h0 : n = 0
        · subst h0
          have k := k H6 sl
          rw [mostAt_zero] at k
          exact iteT k
        · have hn : ¬ (vn n = V.int 0) := fun z => h0 (by have := V.int.inj z; omega)
          rw [decide_eq_false hn]
          refine iteF ⟨_, rfl, _, rfl, l, so.map vn, rfl, Or.inl (SqL.of hlat), _, _, rfl, rfl, _, rfl, ?_⟩
          rw [List.length_map, hls]
          by_cases hov : wo.trees.length < n
          · have k := k H6 sl
            rw [mostAt_over _ _ hov] at k
            rw [decide_eq_true (show ((wo.trees.length : Nat) : Int) < (n : Nat) by omega)]
            exact iteT k
          · rw [decide_eq_false (show ¬ ((wo.trees.length : Nat) : Int) < (n : Nat) by omega)]
            refine iteF ?_
            have k := k H6 sl
            rw [mostAt_sorted wo.trees p hp2 hs2 (Nat.pos_of_ne_zero h0) (by omega)] at k
            refine ⟨_, rfl, _, rfl, l, so.map vn, rfl, Or.inl (SqL.of hlat), _, rfl, _, _, rfl, rfl, l, so.map vn, _, _, rfl, rfl, SqL.of hlat, at_of (j := so.length - n) ?_ ?_, k⟩
            · rw [List.length_map]
              omega
            · have hlt2 : so.length - n < so.length := by omega
              rw [List.getElem?_map, List.getD_eq_getElem?_getD]
              simp [hlt2]
abbrev nMost : List Str := ["self", "n", "found", "point"]
theorem scMost : FnScope nMost ["self", "n"] (defScope sMost) := ⟨rfl, rfl, rfl, by decide +kernel, rfl, by decide +kernel, by decide +kernel⟩
theorem most_none {w : Si59.Wood} {n : Nat} (h : w.points = [] ∨ w.most n = 0) : nextOf w (.most n) = w ∧ ansOf w (.most n) = [-6] := by
  have e : Si59.step w (.most n) = (w, Si59.ok (-6)) := if_pos h
  unfold nextOf ansOf
  rw [e]
  exact ⟨rfl, rfl⟩
theorem most_good {w : Si59.Wood} {n : Nat} (h : ¬ (w.points = [] ∨ w.most n = 0)) : nextOf w (.most n) = w ∧ ansOf w (.most n) = [((w.most n : Nat) : Int)] := by
  have e : Si59.step w (.most n) = (w, Si59.ok (w.most n)) := if_neg h
  unfold nextOf ansOf
  rw [e]
  exact ⟨rfl, rfl⟩
theorem ok_most {f : Addr} {fd : FuncData} (F : Fun K "most" "Wood.most" sMost f fd) (T : Txt K mg CT CW) (c1 : Method P w K mg base 3 CW "most_at" ["self", "point", "n"] (spMostAt CT CW)) :
    FnOk P w K mg base CX0 4 f fd ["self", "n"] (spM CT CW relMost) := by
  obtain ⟨f1, fd1, F1, m1, b1⟩ := c1.ex
  refine F.ok scMost (fun vs H Q E h => ?_) (fun cdv A outer s H vs Q E hr h => ⟨_,
    pss_cons (ps_if (pt_cmpR (op_eqD hr.units) (pe_fld (pv 0) rfl) (pe_lst pa_nil) (nomark _)) (pss_one (ps_ret (pe_lst (pa_cons (pe_const T.cNotSo (by rfl)) pa_nil)))) pss_nil)
      (pss_cons (ps_set (i := 2) scMost.nd rfl (Or.inl rfl) (pe_callB (cr_min rfl) (by rfl) T.min (by decide +kernel) (pa_cons
          (pe_lc (own := [("point", 3)]) (g := gName 3) rfl scMost.nd (pi_list (pe_fld (pv 0) rfl)) (blkOk_by (N := nMost) (sc := defScope sMost) (by decide +kernel))
            (fun _ _ _ _ _ => pg_name (i := 3) scMost.nd rfl (Or.inl rfl)) (fun _ _ _ _ _ => pts_nil)
            (fun _ _ _ _ _ => pe_meth (pv 0) c1.cl m1 F1 hr b1 .nil pass0 (pa_cons (pv 3) (pa_cons (pv 1) pa_nil)))) pa_nil)))
      (pss_cons (ps_if (pt_cmpR op_eq (pv 2) pe_int (nomark _)) (pss_one (ps_ret (pe_lst (pa_cons (pe_const T.cNotSo (by rfl)) pa_nil)))) pss_nil)
      (pss_one (ps_ret (pe_lst (pa_cons (pv 2) pa_nil)))))), ?_⟩)
  · obtain ⟨_, _, _, _, _, _, rfl, ⟨_, rfl, _⟩, _⟩ := h
    rfl
  · obtain ⟨a, ta, pa, wo, ws, q, rfl, ⟨n, rfl, rfl⟩, W, G, k⟩ := h
    obtain ⟨⟨dx, hi⟩, htr, ⟨rp, hrp, hap⟩, hne⟩ := id W
    have hlp := hap.length
    refine ⟨_, rfl, a, CW, dx, _, _, rfl, hi, T.cw, T.nPoints, wF_points ta pa, by decide, fun p0 hp0 => ?_⟩
    have s0 : Same H (upd H p0 (.lst [])) := same_upd hp0
    have hap0 : All2 (PtAt (upd H p0 (.lst []))) rp wo.points := hap.mono fun r x q => keeps_pt _ _ _ _ s0 q
    refine ⟨.list (wo.points.map dP), .list [], .lst (SqL.of (s0 _ _ hrp)) (dp_all dP_dp hap0), .lst (SqL.of upd_same) .nil, shaped_map dP_can dP_depth (by decide) _, shaped_nil, _, rfl, ?_⟩
    rw [eqv_empty]
    generalize upd H p0 (.lst []) = H0 at *
    by_cases hemp : wo.points = []
    · obtain ⟨e1, e2⟩ := most_none (w := wo) (n := n) (.inl hemp)
      rw [e1, e2] at k
      rw [hemp]
      refine iteT ⟨(by show 1 ≤ sizeLine; decide), fun D hD => ?_⟩
      exact k.same W (s0.trans (same_upd hD)) (s0.free hD) upd_same
    · have hie : wo.points.isEmpty = false := by
        cases e : wo.points with
        | nil => exact absurd e hemp
        | cons _ _ => rfl
      rw [hie]
      refine iteF ?_
      have np := G.np
      refine ⟨_, rfl, a, CW, dx, _, _, rfl, s0 _ _ hi, T.cw, T.nPoints, wF_points ta pa, pa, rfl, ⟨_, SqL.of (s0 _ _ hrp)⟩, fun D hD => lc_it (walk_list (K := K) (a := pa) (xs := rp.map V.ref))
        (fun i H' => Acc H0 D ((((wo.points.take i).map fun p => mostAt wo.trees p n).map fun n : Nat => (n : Int)).map V.int) H') (Acc.start hD) (fun i H' _ ac => SqL.of (ac.2 _ _ (s0 _ _ hrp))) ?_ ?_⟩
      · rintro i x H5 H6 hj ac ⟨rfl, hx⟩
        obtain ⟨b, hb, rfl⟩ := map_ref_get hx
        obtain ⟨pp, hpp, hpb⟩ := hap0.get hb
        refine ⟨rfl, _, rfl, a, dx, _, rfl, ac.2 _ _ (s0 _ _ hi), wF_none (by decide +kernel) (by decide +kernel), _, rfl, _, rfl, ?_⟩
        refine ⟨a, ta, pa, b, wo, pp, n, rfl, W.keep (s0.trans ac.2), G, ac.2 _ _ hpb, G.pt pp (List.mem_of_getElem? hpp), fun H7 s7 => ?_⟩
        rw [map_take _ hpp, List.map_append, List.map_append]
        refine ac.push hD s7 _ ?_
        rw [List.length_map, List.length_map, List.length_map]
        exact small (m := 8) (Nat.le_trans (take_le _ _) np) (by decide)
      · intro H5 ac
        rw [List.length_map, hlp, List.take_length] at ac
        have s5 : Same H H5 := s0.trans ac.2
        refine ⟨D, _, rfl, SqL.of ac.1, ?_, fun m hm hle => ?_⟩
        · rw [List.length_map, List.length_map]
          exact List.length_pos_iff.mpr hemp
        · obtain ⟨m0, hm0, rfl⟩ := List.mem_map.mp hm
          have em : wo.most n = m0 := by
            refine most_is ?_ fun p hp => ?_
            · obtain ⟨p, hp, e⟩ := List.mem_map.mp hm0
              exact ⟨p, hp, e⟩
            · have := hle _ (List.mem_map.mpr ⟨_, List.mem_map.mpr ⟨p, hp, rfl⟩, rfl⟩)
              omega
          refine ⟨_, rfl, rfl, _, rfl, ?_⟩
          by_cases h0 : m0 = 0
          · obtain ⟨e1, e2⟩ := most_none (w := wo) (n := n) (.inr (em.trans h0))
            rw [e1, e2] at k
            rw [h0]
            refine iteT ⟨(by show 1 ≤ sizeLine; decide), fun D hD => ?_⟩
            exact k.same W (s5.trans (same_upd hD)) (s5.free hD) upd_same
          · obtain ⟨e1, e2⟩ := most_good (w := wo) (n := n) (by rw [em]; exact fun z => z.elim hemp h0)
            rw [e1, e2, em] at k
            have hn : ¬ (V.int ((m0 : Nat) : Int) = V.int 0) := fun z => h0 (by have := V.int.inj z; omega)
            rw [decide_eq_false hn]
            refine iteF ⟨_, rfl, (by show 1 ≤ sizeLine; decide), fun D hD => ?_⟩
            exact k.same W (s5.trans (same_upd hD)) (s5.free hD) upd_same

/-! ### cover, once -/
abbrev CChoices (P : Program) (w : World) (K : PySem.W.Frag) (mg : Str → Option Value) (base : Heap) : Prop := Callee P w K mg base 1 "choices_of" ["many"] spChoices
abbrev nCover : List Str := ["self", "k", "seen", "some", "point", "one"]
theorem scCover : FnScope nCover ["self", "k"] (defScope sCover) := ⟨rfl, rfl, rfl, by decide +kernel, rfl, by decide +kernel, by decide +kernel⟩
theorem cover_bad {w : Si59.Wood} {k : Nat} (hk : Si59.factor k = false) : nextOf w (.cover k) = w ∧ ansOf w (.cover k) = [-1] := by
  have e : Si59.step w (.cover k) = (w, Si59.ok (-1)) := if_pos hk
  unfold nextOf ansOf
  rw [e]
  exact ⟨rfl, rfl⟩
theorem among_low {n : Nat} {c : List Nat} (h : c ∈ Si59.among 0 n) : (∀ p ∈ c, p < n) ∧ c.length ≤ n := by
  obtain ⟨h1, h2⟩ := among_mem n 0 c h
  have h3 : ∀ p ∈ c, p < n := fun p hp => by
    have := h1 p hp
    omega
  exact ⟨h3, below_len (rise_nodup h2) h3⟩
theorem cover_filter (w : Si59.Wood) (k : Nat) : (Si59.among 0 w.points.length).filter (covers (seenS w k) w.trees.length) = (Si59.among 0 w.points.length).filter (w.all k) :=
  List.filter_congr fun _ hc => covers_is (among_low hc).1
theorem once_filter (w : Si59.Wood) (k : Nat) : (Si59.among 0 w.points.length).filter (noTwice (seenM w k)) = (Si59.among 0 w.points.length).filter (w.once k) :=
  List.filter_congr fun _ hc => noTwice_is (among_low hc).1
theorem cover_none {w : Si59.Wood} {k : Nat} (hk : ¬ Si59.factor k = false) (h : (Si59.among 0 w.points.length).filter (w.all k) = []) : nextOf w (.cover k) = w ∧ ansOf w (.cover k) = [-6] := by
  have e : Si59.step w (.cover k) = (w, Si59.bestOut (w.fewest k)) := if_neg hk
  have e2 : w.fewest k = none := by
    unfold Si59.Wood.fewest
    rw [h]
    rfl
  rw [e2] at e
  unfold nextOf ansOf
  rw [e]
  exact ⟨rfl, rfl⟩
theorem cover_good {w : Si59.Wood} {k m : Nat} (hk : ¬ Si59.factor k = false) (h : IsBest (fun a b => decide (a < b)) ((Si59.among 0 w.points.length).filter (w.all k)) m) : nextOf w (.cover k) = w ∧
    ansOf w (.cover k) = (m :: (ofLen ((Si59.among 0 w.points.length).filter (w.all k)) m).length :: (ofLen ((Si59.among 0 w.points.length).filter (w.all k)) m).headD []).map fun n : Nat => (n : Int) := by
  have e : Si59.step w (.cover k) = (w, Si59.bestOut (w.fewest k)) := if_neg hk
  have e2 : w.fewest k = some (toldOf ((Si59.among 0 w.points.length).filter (w.all k)) m) := bestOf_some order_lt h
  rw [e2] at e
  unfold nextOf ansOf
  rw [e]
  exact ⟨rfl, rfl⟩
theorem seenS_below {w : Si59.Wood} {k : Nat} (h : w.trees.length ≤ 12) : ∀ l ∈ seenS w k, ∀ x ∈ l, x < 12 := fun l hl x hx => by
  obtain ⟨p, _, rfl⟩ := List.mem_map.mp hl
  have := (mem_sureL.mp hx).1
  omega
theorem seenM_below {w : Si59.Wood} {k : Nat} (h : w.trees.length ≤ 12) : ∀ l ∈ seenM w k, ∀ x ∈ l, x < 12 := fun l hl x hx => by
  obtain ⟨p, _, rfl⟩ := List.mem_map.mp hl
  have := (mem_maybeL.mp hx).1
  omega
theorem filter_take {cs : List (List Nat)} {i : Nat} {c : List Nat} (f : List Nat → Bool) (h : cs[i]? = some c) : (cs.take (i + 1)).filter f = (cs.take i).filter f ++ (if f c = true then [c] else []) := by
  rw [take_more h, List.filter_append, List.filter_cons, List.filter_nil]
theorem ok_cover {f : Addr} {fd : FuncData} (F : Fun K "cover" "Wood.cover" sCover f fd) (T : Txt K mg CT CW) (c1 : CIsFactor P w K mg base) (c2 : CSure P w K mg base CT) (c3 : CChoices P w K mg base) (c4 : Callee P w K mg base 1 "are_all_in" ["choice", "seen", "many"] spAllIn)
    (c5 : Callee P w K mg base 2 "fewest" ["some"] (spBest fun a b => decide (a < b))) : FnOk P w K mg base CX0 4 f fd ["self", "k"] (spM CT CW relCover) := by
  refine F.ok scCover (fun vs H Q E h => ?_) (fun cdv A outer s H vs Q E hr h => ⟨_,
    pss_cons (ps_if (pt_not (pt_val (pe_by c1 (hr.mono (by decide)) (by rfl) (pa_cons (pv 1) pa_nil)))) (pss_one (ps_ret (pe_lst (pa_cons (pe_const T.cNot (by rfl)) pa_nil)))) pss_nil)
      (pss_cons (ps_set (i := 2) scCover.nd rfl (Or.inr rfl)
          (pe_lc (own := [("point", 4)]) (g := gName 4) rfl scCover.nd (pi_list (pe_fld (pv 0) rfl)) (blkOk_by (N := nCover) (sc := defScope sCover) (by decide +kernel))
            (fun _ _ _ _ _ => pg_name (i := 4) scCover.nd rfl (Or.inl rfl)) (fun _ _ _ _ _ => pts_nil)
            (fun _ _ _ _ _ => pe_by c2 hr (by rfl) (pa_cons (pe_fldK (K := K) (pv 0) rfl rfl) (pa_cons (pv 4) (pa_cons (pv 1) pa_nil))))))
      (pss_cons (ps_setLc (i := 3) (own := [("one", 5)]) (g := gName 5) rfl scCover.nd rfl rfl (sw_true rfl rfl rfl (by decide +kernel))
          (pi_list (pe_by c3 (hr.mono (by decide)) (by rfl) (pa_cons (pe_callB (r := rLen K) call_len_seq (by rfl) T.len PySem.boot_len (pa_cons (pv 2) pa_nil)) pa_nil))) (blkOk_by (N := nCover) (sc := defScope sCover) (by decide +kernel))
          (fun _ _ _ _ _ => pg_name (i := 5) scCover.nd rfl (Or.inl rfl))
          (fun _ _ _ _ _ => pts_one (pt_val (pe_by c4 (hr.mono (by decide)) (by rfl) (pa_cons (pv 5) (pa_cons (pv 2) (pa_cons (pe_callB (r := rLen K) call_len_seq (by rfl) T.len PySem.boot_len (pa_cons (pe_fldK (K := K) (pv 0) rfl rfl) pa_nil)) pa_nil))))))
          (fun _ _ _ _ _ => pv 5))
      (pss_cons (ps_if (pt_cmpR (op_eqD hr.units) (pv 3) (pe_lst pa_nil) (nomark _)) (pss_one (ps_ret (pe_lst (pa_cons (pe_const T.cNotSo (by rfl)) pa_nil)))) pss_nil)
      (pss_one (ps_ret (pe_by c5 (hr.mono (by decide)) (by rfl) (pa_cons (pv 3) pa_nil))))))), ?_⟩)
  · obtain ⟨_, _, _, _, _, _, rfl, ⟨_, rfl, _⟩, _⟩ := h
    rfl
  · obtain ⟨a, ta, pa, wo, ws, q, rfl, ⟨fk, rfl, rfl⟩, W, G, k⟩ := h
    refine ⟨_, rfl, fk, rfl, _, rfl, ?_⟩
    cases hk : Si59.factor fk with
    | false =>
      obtain ⟨e1, e2⟩ := cover_bad (w := wo) hk
      rw [e1, e2] at k
      exact iteT (k.one W)
    | true =>
      have hk' : ¬ Si59.factor fk = false := by
        rw [hk]
        exact fun z => by cases z
      refine iteF ?_
      obtain ⟨⟨dx, hi⟩, ⟨rt, hrt, hat⟩, ⟨rp, hrp, hap⟩, hne⟩ := id W
      have hlp := hap.length
      have hlt := hat.length
      have kl := factor_le hk
      have gt : ∀ t ∈ wo.trees, GoodT t := G.tr
      have np := G.np
      have htr : RefsAt (TreeAt CT) H ta wo.trees := ⟨rt, hrt, hat⟩
      refine ⟨_, rfl, a, CW, dx, _, _, rfl, hi, T.cw, T.nPoints, wF_points ta pa, pa, rfl, ⟨_, SqL.of hrp⟩, fun D hD => lc_it (walk_list (K := K) (a := pa) (xs := rp.map V.ref))
        (fun i H' => AccL H D ((wo.points.take i).map fun p => sureL wo.trees p fk) H') (AccL.start hD) (fun i H' _ ac => SqL.of (ac.same _ _ hrp)) ?_ ?_⟩
      · rintro i x H5 H6 hj ac ⟨rfl, hx⟩
        obtain ⟨b, hb, rfl⟩ := map_ref_get hx
        obtain ⟨pp, hpp, hpb⟩ := hap.get hb
        refine ⟨rfl, _, rfl, a, CW, dx, _, _, rfl, ac.same _ _ hi, T.cw, T.nTrees, wF_trees ta pa, _, rfl, _, rfl, ?_⟩
        refine ⟨ta, b, wo.trees, pp, fk, rfl, htr.keep keeps_tree ac.same, ac.same _ _ hpb, gt, G.nt, G.pt pp (List.mem_of_getElem? hpp), kl, fun H7 D7 s7 hD7 hn7 => ?_⟩
        rw [map_take _ hpp]
        refine ac.push hD s7 (fun z => ?_) hn7 ?_
        · subst z
          obtain ⟨_, ad, _⟩ := ac
          rw [ad.1] at hD7
          cases hD7
        · rw [List.length_map]
          exact small (m := 8) (Nat.le_trans (take_le _ _) np) (by decide)
      · intro H1 ac
        rw [List.length_map, hlp, List.take_length] at ac
        have s1 : Same H H1 := ac.same
        obtain ⟨rs, hrs, has⟩ := ac.refs
        have hls : rs.length = wo.points.length := by
          rw [has.length, List.length_map]
        have hseen : RefsAt NatsAt H1 D (seenS wo fk) := ⟨rs, hrs, has⟩
        have hsl : (seenS wo fk).length = wo.points.length := List.length_map _
        -- some = ..
        refine ⟨_, rfl, D, _, rfl, Or.inl (SqL.of hrs), ?_⟩
        rw [List.length_map, hls]
        refine ⟨wo.points.length, rfl, np, fun H2 C s2 hC hch => ?_⟩
        have s12 := s1.trans s2
        obtain ⟨rc, hrc, hac⟩ := hch
        have hlc := hac.length
        refine ⟨C, rfl, ⟨_, SqL.of hrc⟩, fun L hL => lc_it (walk_list (K := K) (a := C) (xs := rc.map V.ref))
          (fun i H' => AccL H2 L (((Si59.among 0 wo.points.length).take i).filter (covers (seenS wo fk) wo.trees.length)) H') (AccL.start hL) (fun i H' _ ac => SqL.of (ac.same _ _ hrc)) ?_ ?_⟩
        · rintro i x H5 H6 hj ac ⟨rfl, hx⟩
          obtain ⟨r, hr1, rfl⟩ := map_ref_get hx
          obtain ⟨c, hc, hrn⟩ := hac.get hr1
          have cm : c ∈ Si59.among 0 wo.points.length := List.mem_of_getElem? hc
          have s6 := s12.trans ac.same
          refine ⟨rfl, _, rfl, _, rfl, _, rfl, a, CW, dx, _, _, rfl, s6 _ _ hi, T.cw, T.nTrees, wF_trees ta pa, ta, _, rfl, Or.inl (SqL.of (s6 _ _ hrt)), ?_⟩
          rw [List.length_map, hlt]
          refine ⟨r, D, wo.trees.length, c, seenS wo fk, rfl, ⟨ac.same _ _ hrn, hseen.keep keeps_nats (s2.trans ac.same), by rw [hsl]; exact (among_low cm).1, seenS_below G.nt⟩, fun H7 s7 => ⟨_, rfl, ?_⟩⟩
          rw [filter_take _ hc]
          cases hcv : covers (seenS wo fk) wo.trees.length c with
          | true =>
            refine iteT ⟨_, rfl, ?_⟩
            rw [if_pos rfl]
            refine ac.push hL s7 (fun z => ?_) (s7 _ _ (ac.same _ _ hrn)) ?_
            · subst z
              rw [hrn] at hL
              cases hL
            · refine small (m := 256) (Nat.le_trans (List.length_filter_le _ _) (Nat.le_trans (take_le _ _) (among_small np))) (by decide)
          | false =>
            refine iteF ?_
            rw [if_neg Bool.false_ne_true, List.append_nil]
            exact ac.skip s7
        · intro H3 ac
          rw [List.length_map, hlc, List.take_length, cover_filter] at ac
          have s3 : Same H H3 := s12.trans ac.same
          have few : ((Si59.among 0 wo.points.length).filter (wo.all fk)).length ≤ 256 := Nat.le_trans (List.length_filter_le _ _) (among_small np)
          have short : ∀ c ∈ (Si59.among 0 wo.points.length).filter (wo.all fk), c.length ≤ 8 := fun c hc => Nat.le_trans (among_low (List.mem_filter.mp hc).1).2 np
          have cnone := cover_none (w := wo) hk'
          have cgood := fun m => cover_good (w := wo) (m := m) hk'
          generalize (Si59.among 0 wo.points.length).filter (wo.all fk) = cs at *
          obtain ⟨ro, hro, hao⟩ := ac.refs
          refine ⟨_, rfl, by decide, fun p0 hp0 => ?_⟩
          have s0 : Same H3 (upd H3 p0 (.lst [])) := same_upd hp0
          refine ⟨.list (cs.map dN), .list [], .lst (SqL.of (s0 _ _ hro)) (dp_all dN_dp (hao.mono fun r x q => keeps_nats _ _ _ _ s0 q)), .lst (SqL.of upd_same) .nil, shaped_map dN_can dN_depth (by decide) _, shaped_nil, _, rfl, ?_⟩
          rw [eqv_empty]
          generalize upd H3 p0 (.lst []) = H4 at *
          have s4 := s3.trans s0
          cases cs with
          | nil =>
            obtain ⟨e1, e2⟩ := cnone rfl
            rw [e1, e2] at k
            refine iteT ⟨(by show 1 ≤ sizeLine; decide), fun D hD => ?_⟩
            exact k.same W (s4.trans (same_upd hD)) (s4.free hD) upd_same
          | cons c0 cr =>
            refine iteF ⟨_, rfl, L, c0 :: cr, rfl, ⟨⟨ro, s0 _ _ hro, hao.mono fun r x q => keeps_nats _ _ _ _ s0 q⟩, few, short⟩, by simp, fun m H5 D5 hbest s5 hD5 hn5 => ?_⟩
            obtain ⟨e1, e2⟩ := cgood m hbest
            rw [e1, e2] at k
            refine k.same W (s4.trans s5) (s4.free hD5) ?_
            rw [map_vn]
            exact hn5
abbrev nOnce : List Str := ["self", "k", "seen", "point", "one"]
theorem scOnce : FnScope nOnce ["self", "k"] (defScope sOnce) := ⟨rfl, rfl, rfl, by decide +kernel, rfl, by decide +kernel, by decide +kernel⟩
theorem once_bad {w : Si59.Wood} {k : Nat} (hk : Si59.factor k = false) : nextOf w (.once k) = w ∧ ansOf w (.once k) = [-1] := by
  have e : Si59.step w (.once k) = (w, Si59.ok (-1)) := if_pos hk
  unfold nextOf ansOf
  rw [e]
  exact ⟨rfl, rfl⟩
theorem once_good {w : Si59.Wood} {k m : Nat} (hk : ¬ Si59.factor k = false) (h : IsBest (fun a b => decide (b < a)) ((Si59.among 0 w.points.length).filter (w.once k)) m) : nextOf w (.once k) = w ∧
    ansOf w (.once k) = (m :: (ofLen ((Si59.among 0 w.points.length).filter (w.once k)) m).length :: (ofLen ((Si59.among 0 w.points.length).filter (w.once k)) m).headD []).map fun n : Nat => (n : Int) := by
  have e : Si59.step w (.once k) = (w, Si59.bestOut (w.widest k)) := if_neg hk
  have e2 : w.widest k = some (toldOf ((Si59.among 0 w.points.length).filter (w.once k)) m) := bestOf_some order_gt h
  rw [e2] at e
  unfold nextOf ansOf
  rw [e]
  exact ⟨rfl, rfl⟩
theorem once_some (w : Si59.Wood) (k : Nat) : (Si59.among 0 w.points.length).filter (w.once k) ≠ [] := fun e => by
  have h : [] ∈ (Si59.among 0 w.points.length).filter (w.once k) := by
    refine List.mem_filter.mpr ⟨among_nil _ _, ?_⟩
    unfold Si59.Wood.once
    simp
  rw [e] at h
  cases h
theorem ok_once {f : Addr} {fd : FuncData} (F : Fun K "once" "Wood.once" sOnce f fd) (T : Txt K mg CT CW) (c1 : CIsFactor P w K mg base) (c2 : CPoss P w K mg base CT) (c3 : CChoices P w K mg base) (c4 : Callee P w K mg base 1 "is_none_twice" ["choice", "seen"] spTwice)
    (c5 : Callee P w K mg base 2 "most_points" ["some"] (spBest fun a b => decide (b < a))) : FnOk P w K mg base CX0 4 f fd ["self", "k"] (spM CT CW relOnce) := by
  refine F.ok scOnce (fun vs H Q E h => ?_) (fun cdv A outer s H vs Q E hr h => ⟨_,
    pss_cons (ps_if (pt_not (pt_val (pe_by c1 (hr.mono (by decide)) (by rfl) (pa_cons (pv 1) pa_nil)))) (pss_one (ps_ret (pe_lst (pa_cons (pe_const T.cNot (by rfl)) pa_nil)))) pss_nil)
      (pss_cons (ps_set (i := 2) scOnce.nd rfl (Or.inr rfl)
          (pe_lc (own := [("point", 3)]) (g := gName 3) rfl scOnce.nd (pi_list (pe_fld (pv 0) rfl)) (blkOk_by (N := nOnce) (sc := defScope sOnce) (by decide +kernel))
            (fun _ _ _ _ _ => pg_name (i := 3) scOnce.nd rfl (Or.inl rfl)) (fun _ _ _ _ _ => pts_nil)
            (fun _ _ _ _ _ => pe_by c2 hr (by rfl) (pa_cons (pe_fldK (K := K) (pv 0) rfl rfl) (pa_cons (pv 3) (pa_cons (pv 1) pa_nil))))))
      (pss_one (ps_ret (pe_by c5 (hr.mono (by decide)) (by rfl) (pa_cons
        (pe_lc (own := [("one", 4)]) (g := gName 4) rfl scOnce.nd
          (pi_list (pe_by c3 (hr.mono (by decide)) (by rfl) (pa_cons (pe_callB (r := rLen K) call_len_seq (by rfl) T.len PySem.boot_len (pa_cons (pv 2) pa_nil)) pa_nil))) (blkOk_by (N := nOnce) (sc := defScope sOnce) (by decide +kernel))
          (fun _ _ _ _ _ => pg_name (i := 4) scOnce.nd rfl (Or.inl rfl))
          (fun _ _ _ _ _ => pts_one (pt_val (pe_by c4 (hr.mono (by decide)) (by rfl) (pa_cons (pv 4) (pa_cons (pv 2) pa_nil)))))
          (fun _ _ _ _ _ => pv 4)) pa_nil))))), ?_⟩)
  · obtain ⟨_, _, _, _, _, _, rfl, ⟨_, rfl, _⟩, _⟩ := h
    rfl
  · obtain ⟨a, ta, pa, wo, ws, q, rfl, ⟨fk, rfl, rfl⟩, W, G, k⟩ := h
    refine ⟨_, rfl, fk, rfl, _, rfl, ?_⟩
    cases hk : Si59.factor fk with
    | false =>
      obtain ⟨e1, e2⟩ := once_bad (w := wo) hk
      rw [e1, e2] at k
      exact iteT (k.one W)
    | true =>
      have hk' : ¬ Si59.factor fk = false := by
        rw [hk]
        exact fun z => by cases z
      refine iteF ?_
      obtain ⟨⟨dx, hi⟩, ⟨rt, hrt, hat⟩, ⟨rp, hrp, hap⟩, hne⟩ := id W
      have hlp := hap.length
      have kl := factor_le hk
      have gt : ∀ t ∈ wo.trees, GoodT t := G.tr
      have np := G.np
      have htr : RefsAt (TreeAt CT) H ta wo.trees := ⟨rt, hrt, hat⟩
      refine ⟨_, rfl, a, CW, dx, _, _, rfl, hi, T.cw, T.nPoints, wF_points ta pa, pa, rfl, ⟨_, SqL.of hrp⟩, fun D hD => lc_it (walk_list (K := K) (a := pa) (xs := rp.map V.ref))
        (fun i H' => AccL H D ((wo.points.take i).map fun p => maybeL wo.trees p fk) H') (AccL.start hD) (fun i H' _ ac => SqL.of (ac.same _ _ hrp)) ?_ ?_⟩
      · rintro i x H5 H6 hj ac ⟨rfl, hx⟩
        obtain ⟨b, hb, rfl⟩ := map_ref_get hx
        obtain ⟨pp, hpp, hpb⟩ := hap.get hb
        refine ⟨rfl, _, rfl, a, CW, dx, _, _, rfl, ac.same _ _ hi, T.cw, T.nTrees, wF_trees ta pa, _, rfl, _, rfl, ?_⟩
        refine ⟨ta, b, wo.trees, pp, fk, rfl, htr.keep keeps_tree ac.same, ac.same _ _ hpb, gt, G.nt, G.pt pp (List.mem_of_getElem? hpp), kl, fun H7 D7 s7 hD7 hn7 => ?_⟩
        rw [map_take _ hpp]
        refine ac.push hD s7 (fun z => ?_) hn7 ?_
        · subst z
          obtain ⟨_, ad, _⟩ := ac
          rw [ad.1] at hD7
          cases hD7
        · rw [List.length_map]
          exact small (m := 8) (Nat.le_trans (take_le _ _) np) (by decide)
      · intro H1 ac
        rw [List.length_map, hlp, List.take_length] at ac
        have s1 : Same H H1 := ac.same
        obtain ⟨rs, hrs, has⟩ := ac.refs
        have hls : rs.length = wo.points.length := by
          rw [has.length, List.length_map]
        have hseen : RefsAt NatsAt H1 D (seenM wo fk) := ⟨rs, hrs, has⟩
        have hsl : (seenM wo fk).length = wo.points.length := List.length_map _
        refine ⟨_, rfl, D, _, rfl, Or.inl (SqL.of hrs), ?_⟩
        rw [List.length_map, hls]
        refine ⟨wo.points.length, rfl, np, fun H2 C s2 hC hch => ?_⟩
        have s12 := s1.trans s2
        obtain ⟨rc, hrc, hac⟩ := hch
        have hlc := hac.length
        refine ⟨C, rfl, ⟨_, SqL.of hrc⟩, fun L hL => lc_it (walk_list (K := K) (a := C) (xs := rc.map V.ref))
          (fun i H' => AccL H2 L (((Si59.among 0 wo.points.length).take i).filter (noTwice (seenM wo fk))) H') (AccL.start hL) (fun i H' _ ac => SqL.of (ac.same _ _ hrc)) ?_ ?_⟩
        · rintro i x H5 H6 hj ac ⟨rfl, hx⟩
          obtain ⟨r, hr1, rfl⟩ := map_ref_get hx
          obtain ⟨c, hc, hrn⟩ := hac.get hr1
          have cm : c ∈ Si59.among 0 wo.points.length := List.mem_of_getElem? hc
          refine ⟨rfl, _, rfl, _, rfl, ?_⟩
          refine ⟨r, D, c, seenM wo fk, rfl, ⟨ac.same _ _ hrn, hseen.keep keeps_nats (s2.trans ac.same), by rw [hsl]; exact (among_low cm).1, seenM_below G.nt⟩, fun H7 s7 => ⟨_, rfl, ?_⟩⟩
          rw [filter_take _ hc]
          cases hcv : noTwice (seenM wo fk) c with
          | true =>
            refine iteT ⟨_, rfl, ?_⟩
            rw [if_pos rfl]
            refine ac.push hL s7 (fun z => ?_) (s7 _ _ (ac.same _ _ hrn)) ?_
            · subst z
              rw [hrn] at hL
              cases hL
            · refine small (m := 256) (Nat.le_trans (List.length_filter_le _ _) (Nat.le_trans (take_le _ _) (among_small np))) (by decide)
          | false =>
            refine iteF ?_
            rw [if_neg Bool.false_ne_true, List.append_nil]
            exact ac.skip s7
        · intro H3 ac
          rw [List.length_map, hlc, List.take_length, once_filter] at ac
          have s3 : Same H H3 := s12.trans ac.same
          have few : ((Si59.among 0 wo.points.length).filter (wo.once fk)).length ≤ 256 := Nat.le_trans (List.length_filter_le _ _) (among_small np)
          have short : ∀ c ∈ (Si59.among 0 wo.points.length).filter (wo.once fk), c.length ≤ 8 := fun c hc => Nat.le_trans (among_low (List.mem_filter.mp hc).1).2 np
          have csome := once_some wo fk
          have cgood := fun m => once_good (w := wo) (m := m) hk'
          generalize (Si59.among 0 wo.points.length).filter (wo.once fk) = cs at *
          refine ⟨L, cs, rfl, ⟨ac.refs, few, short⟩, csome, fun m H5 D5 hbest s5 hD5 hn5 => ?_⟩
          obtain ⟨e1, e2⟩ := cgood m hbest
          rw [e1, e2] at k
          refine k.same W (s3.trans s5) (s3.free hD5) ?_
          rw [map_vn]
          exact hn5
end
end My

set_option Elab.async false
set_option maxRecDepth 100000
set_option maxHeartbeats 4000000
/-! # The walk, part 6: one call, all calls -/
namespace My
open PySem PySem.Spec PyProof.Rows L2

theorem ite_no {x y : V} {A B : Prop} (h : ¬ x = y) (b : B) : if decide (x = y) = true then A else B := by
  rw [decide_eq_false h]
  exact iteF b
theorem ite_yes {x y : V} {A B : Prop} (h : x = y) (a : A) : if decide (x = y) = true then A else B := by
  rw [decide_eq_true h]
  exact iteT a
theorem cutV_mid {ns : List Int} {b n : Nat} (h : b + n ≤ ns.length) : cutV (ns.map V.int) (some (b : Nat)) (some ((b + n : Nat) : Int)) = ((ns.drop b).take n).map V.int := by
  unfold cutV
  rw [HT.sIx_nat, HT.sIx_nat, List.length_map]
  have e1 : min b ns.length = b := by omega
  have e2 : min (b + n) ns.length = b + n := by omega
  rw [e1, e2, Nat.add_sub_cancel_left, List.map_take, List.map_drop]
theorem wood_upd {CT CW : Addr} {H : Hp} {a ta pa f : Addr} {w : Si59.Wood} {xs : List V} {o : HO} (W : WoodAt CT CW H a ta pa w) (hf : H f = some (.lst xs)) (h1 : f ≠ ta) (h2 : f ≠ pa) : WoodAt CT CW (upd H f o) a ta pa w := by
  obtain ⟨⟨dx, hi⟩, ⟨rt, hrt, hat⟩, ⟨rp, hrp, hap⟩, hne⟩ := W
  refine ⟨⟨dx, (upd_ne (ne_of hi hf (by intro z; cases z))).trans hi⟩, ⟨rt, (upd_ne h1.symm).trans hrt, hat.mono fun r x q => tree_upd hf q⟩, ⟨rp, (upd_ne h2.symm).trans hrp, hap.mono fun r x q => pt_upd hf q⟩, hne⟩

section
variable {P : Program} {w : World} {K : PySem.W.Frag} {mg : Str → Option Value} {base : Heap} {CT CW : Addr}
/-! ### answer -/
def spAnswer (K : PySem.W.Frag) (CT CW : Addr) : Sp := fun vs H Q _ => ∃ (a ta pa l : Addr) (w : Si59.Wood) (j : Nat) (ws : List Int) (q : Si59.Call), vs = [.ref a, vn j, .ref l] ∧ Words j ws q ∧ SqL K H l (ws.map V.int) ∧
  WoodAt CT CW H a ta pa w ∧ Good w ∧ Done CT CW H a ta pa (nextOf w q) (ansOf w q) Q
abbrev nAnswer : List Str := ["self", "number", "words"]
theorem scAnswer : FnScope nAnswer nAnswer (defScope sAnswer) := ⟨rfl, rfl, rfl, by decide +kernel, rfl, by decide +kernel, by decide +kernel⟩
theorem ok_answer {f : Addr} {fd : FuncData} (F : Fun K "answer" "Wood.answer" sAnswer f fd) (T : Txt K mg CT CW) (c0 : Method P w K mg base 1 CW "begins" ["self"] (spM CT CW relBegins))
    (c1 : Method P w K mg base 3 CW "tree" nTree (spM CT CW relTree)) (c2 : Method P w K mg base 3 CW "point" nPoint (spM CT CW relPoint)) (c3 : Method P w K mg base 4 CW "count" ["self", "p", "k"] (spM CT CW relCount))
    (c4 : Method P w K mg base 4 CW "worth" ["self", "k"] (spM CT CW relWorth)) (c5 : Method P w K mg base 4 CW "most" ["self", "n"] (spM CT CW relMost)) (c6 : Method P w K mg base 4 CW "cover" ["self", "k"] (spM CT CW relCover))
    (c7 : Method P w K mg base 4 CW "once" ["self", "k"] (spM CT CW relOnce)) : FnOk P w K mg base CX0 5 f fd nAnswer (spAnswer K CT CW) := by
  obtain ⟨f0, fd0, F0, m0, b0⟩ := c0.ex
  obtain ⟨f1, fd1, F1, m1, b1⟩ := c1.ex
  obtain ⟨f2, fd2, F2, m2, b2⟩ := c2.ex
  obtain ⟨f3, fd3, F3, m3, b3⟩ := c3.ex
  obtain ⟨f4, fd4, F4, m4, b4⟩ := c4.ex
  obtain ⟨f5, fd5, F5, m5, b5⟩ := c5.ex
  obtain ⟨f6, fd6, F6, m6, b6⟩ := c6.ex
  obtain ⟨f7, fd7, F7, m7, b7⟩ := c7.ex
  refine F.ok scAnswer (fun vs H Q E h => ?_) (fun cdv A outer s H vs Q E hr h => ⟨_,
    pss_cons (ps_if (pt_cmpR op_eq (pv 1) (pe_const T.cBegins (by rfl)) (nomark _)) (pss_one (ps_ret (pe_meth0 (pv 0) c0.cl m0 F0 (hr.mono (by decide)) b0 .nil pass0))) pss_nil)
      (pss_cons (ps_if (pt_cmpR op_eq (pv 1) (pe_const T.cTree (by rfl)) (nomark _)) (pss_one (ps_ret (pe_meth (pv 0) c1.cl m1 F1 (hr.mono (by decide)) b1 .nil pass0 (pa_cons (pe_ix ix_list (pv 2) pe_int (fun _ _ => rfl)) (pa_cons (pe_ix ix_list (pv 2) pe_int (fun _ _ => rfl))
        (pa_cons (pe_ix ix_list (pv 2) pe_int (fun _ _ => rfl)) (pa_cons (pe_ix ix_list (pv 2) pe_int (fun _ _ => rfl)) pa_nil))))))) pss_nil)
      (pss_cons (ps_if (pt_cmpR op_eq (pv 1) (pe_const T.cPoint (by rfl)) (nomark _)) (pss_one (ps_ret (pe_meth (pv 0) c2.cl m2 F2 (hr.mono (by decide)) b2 .nil pass0 (pa_cons (pe_ix ix_list (pv 2) pe_int (fun _ _ => rfl)) (pa_cons (pe_ix ix_list (pv 2) pe_int (fun _ _ => rfl)) pa_nil))))) pss_nil)
      (pss_cons (ps_if (pt_cmpR op_eq (pv 1) (pe_const T.cCount (by rfl)) (nomark _)) (pss_one (ps_ret (pe_meth (pv 0) c3.cl m3 F3 hr b3 .nil pass0 (pa_cons (pe_ix ix_list (pv 2) pe_int (fun _ _ => rfl)) (pa_cons (pe_ix ix_list (pv 2) pe_int (fun _ _ => rfl)) pa_nil))))) pss_nil)
      (pss_cons (ps_if (pt_cmpR op_eq (pv 1) (pe_const T.cWorth (by rfl)) (nomark _)) (pss_one (ps_ret (pe_meth (pv 0) c4.cl m4 F4 hr b4 .nil pass0 (pa_cons (pe_ix ix_list (pv 2) pe_int (fun _ _ => rfl)) pa_nil)))) pss_nil)
      (pss_cons (ps_if (pt_cmpR op_eq (pv 1) (pe_const T.cMost (by rfl)) (nomark _)) (pss_one (ps_ret (pe_meth (pv 0) c5.cl m5 F5 hr b5 .nil pass0 (pa_cons (pe_ix ix_list (pv 2) pe_int (fun _ _ => rfl)) pa_nil)))) pss_nil)
      (pss_cons (ps_if (pt_cmpR op_eq (pv 1) (pe_const T.cCover (by rfl)) (nomark _)) (pss_one (ps_ret (pe_meth (pv 0) c6.cl m6 F6 hr b6 .nil pass0 (pa_cons (pe_ix ix_list (pv 2) pe_int (fun _ _ => rfl)) pa_nil)))) pss_nil)
      (pss_one (ps_ret (pe_meth (pv 0) c7.cl m7 F7 hr b7 .nil pass0 (pa_cons (pe_ix ix_list (pv 2) pe_int (fun _ _ => rfl)) pa_nil)))))))))), ?_⟩)
  · obtain ⟨_, _, _, _, _, _, _, _, rfl, _⟩ := h
    rfl
  · obtain ⟨a, ta, pa, l, wo, j, ws, q, rfl, hw, hl, W, G, k⟩ := h
    obtain ⟨dx, hi⟩ := W.ins
    cases hw with
    | begins =>
      refine ⟨_, rfl, rfl, _, rfl, ite_yes rfl ⟨_, rfl, a, dx, _, rfl, hi, wF_none (by decide +kernel) (by decide +kernel), ?_⟩⟩
      exact ⟨a, ta, pa, wo, [], _, rfl, ⟨rfl, rfl⟩, W, G, k⟩
    | tree x y d e =>
      refine ⟨_, rfl, rfl, _, rfl, ite_no (by decide) ?_⟩
      refine ⟨_, rfl, rfl, _, rfl, ite_yes rfl ⟨_, rfl, a, dx, _, rfl, hi, wF_none (by decide +kernel) (by decide +kernel), ?_⟩⟩
      refine ⟨_, rfl, l, _, _, _, rfl, rfl, hl, at_of (j := 0) rfl rfl, _, rfl, l, _, _, _, rfl, rfl, hl, at_of (j := 1) rfl rfl, _, rfl, l, _, _, _, rfl, rfl, hl, at_of (j := 2) rfl rfl, _, rfl, l, _, _, _, rfl, rfl, hl, at_of (j := 3) rfl rfl, ?_⟩
      exact ⟨a, ta, pa, wo, _, _, rfl, ⟨⟨x, y, d, e⟩, rfl, rfl⟩, W, G, k⟩
    | point x y =>
      refine ⟨_, rfl, rfl, _, rfl, ite_no (by decide) ?_⟩
      refine ⟨_, rfl, rfl, _, rfl, ite_no (by decide) ?_⟩
      refine ⟨_, rfl, rfl, _, rfl, ite_yes rfl ⟨_, rfl, a, dx, _, rfl, hi, wF_none (by decide +kernel) (by decide +kernel), ?_⟩⟩
      refine ⟨_, rfl, l, _, _, _, rfl, rfl, hl, at_of (j := 0) rfl rfl, _, rfl, l, _, _, _, rfl, rfl, hl, at_of (j := 1) rfl rfl, ?_⟩
      exact ⟨a, ta, pa, wo, _, _, rfl, ⟨x, y, rfl, rfl⟩, W, G, k⟩
    | count x y =>
      refine ⟨_, rfl, rfl, _, rfl, ite_no (by decide) ?_⟩
      refine ⟨_, rfl, rfl, _, rfl, ite_no (by decide) ?_⟩
      refine ⟨_, rfl, rfl, _, rfl, ite_no (by decide) ?_⟩
      refine ⟨_, rfl, rfl, _, rfl, ite_yes rfl ⟨_, rfl, a, dx, _, rfl, hi, wF_none (by decide +kernel) (by decide +kernel), ?_⟩⟩
      refine ⟨_, rfl, l, _, _, _, rfl, rfl, hl, at_of (j := 0) rfl rfl, _, rfl, l, _, _, _, rfl, rfl, hl, at_of (j := 1) rfl rfl, ?_⟩
      exact ⟨a, ta, pa, wo, _, _, rfl, ⟨x, y, rfl, rfl⟩, W, G, k⟩
    | worth x =>
      refine ⟨_, rfl, rfl, _, rfl, ite_no (by decide) ?_⟩
      refine ⟨_, rfl, rfl, _, rfl, ite_no (by decide) ?_⟩
      refine ⟨_, rfl, rfl, _, rfl, ite_no (by decide) ?_⟩
      refine ⟨_, rfl, rfl, _, rfl, ite_no (by decide) ?_⟩
      refine ⟨_, rfl, rfl, _, rfl, ite_yes rfl ⟨_, rfl, a, dx, _, rfl, hi, wF_none (by decide +kernel) (by decide +kernel), ?_⟩⟩
      refine ⟨_, rfl, l, _, _, _, rfl, rfl, hl, at_of (j := 0) rfl rfl, ?_⟩
      exact ⟨a, ta, pa, wo, _, _, rfl, ⟨x, rfl, rfl⟩, W, G, k⟩
    | most x =>
      refine ⟨_, rfl, rfl, _, rfl, ite_no (by decide) ?_⟩
      refine ⟨_, rfl, rfl, _, rfl, ite_no (by decide) ?_⟩
      refine ⟨_, rfl, rfl, _, rfl, ite_no (by decide) ?_⟩
      refine ⟨_, rfl, rfl, _, rfl, ite_no (by decide) ?_⟩
      refine ⟨_, rfl, rfl, _, rfl, ite_no (by decide) ?_⟩
      refine ⟨_, rfl, rfl, _, rfl, ite_yes rfl ⟨_, rfl, a, dx, _, rfl, hi, wF_none (by decide +kernel) (by decide +kernel), ?_⟩⟩
      refine ⟨_, rfl, l, _, _, _, rfl, rfl, hl, at_of (j := 0) rfl rfl, ?_⟩
      exact ⟨a, ta, pa, wo, _, _, rfl, ⟨x, rfl, rfl⟩, W, G, k⟩
    | cover x =>
      refine ⟨_, rfl, rfl, _, rfl, ite_no (by decide) ?_⟩
      refine ⟨_, rfl, rfl, _, rfl, ite_no (by decide) ?_⟩
      refine ⟨_, rfl, rfl, _, rfl, ite_no (by decide) ?_⟩
      refine ⟨_, rfl, rfl, _, rfl, ite_no (by decide) ?_⟩
      refine ⟨_, rfl, rfl, _, rfl, ite_no (by decide) ?_⟩
      refine ⟨_, rfl, rfl, _, rfl, ite_no (by decide) ?_⟩
      refine ⟨_, rfl, rfl, _, rfl, ite_yes rfl ⟨_, rfl, a, dx, _, rfl, hi, wF_none (by decide +kernel) (by decide +kernel), ?_⟩⟩
      refine ⟨_, rfl, l, _, _, _, rfl, rfl, hl, at_of (j := 0) rfl rfl, ?_⟩
      exact ⟨a, ta, pa, wo, _, _, rfl, ⟨x, rfl, rfl⟩, W, G, k⟩
    | once x =>
      refine ⟨_, rfl, rfl, _, rfl, ite_no (by decide) ?_⟩
      refine ⟨_, rfl, rfl, _, rfl, ite_no (by decide) ?_⟩
      refine ⟨_, rfl, rfl, _, rfl, ite_no (by decide) ?_⟩
      refine ⟨_, rfl, rfl, _, rfl, ite_no (by decide) ?_⟩
      refine ⟨_, rfl, rfl, _, rfl, ite_no (by decide) ?_⟩
      refine ⟨_, rfl, rfl, _, rfl, ite_no (by decide) ?_⟩
      refine ⟨_, rfl, rfl, _, rfl, ite_no (by decide) ⟨_, rfl, a, dx, _, rfl, hi, wF_none (by decide +kernel) (by decide +kernel), ?_⟩⟩
      refine ⟨_, rfl, l, _, _, _, rfl, rfl, hl, at_of (j := 0) rfl rfl, ?_⟩
      exact ⟨a, ta, pa, wo, _, _, rfl, ⟨x, rfl, rfl⟩, W, G, k⟩

/-! ### answers -/
def spAnswers (K : PySem.W.Frag) : Sp := fun vs H Q _ => ∃ (c : Addr) (ns : List Int), vs = [.ref c] ∧ SqL K H c (ns.map V.int) ∧ ns.length ≤ 400 ∧ PySi59.answers_asked ns = true ∧
  ∀ (H' : Hp) (p : Addr), H' p = some (.lst ((PySi59.answers ns).map V.int)) → Q (.ref p) H'
abbrev nAnswers : List Str := ["calls", "wood", "found", "at", "number", "begin", "told"]
theorem scAnswers : FnScope nAnswers ["calls"] (defScope sAnswers) := ⟨rfl, rfl, rfl, by decide +kernel, rfl, by decide +kernel, by decide +kernel⟩
/-- what holds between two calls: c the request, H the heap at its beginning -/
structure Between (CT CW : Addr) (H : Hp) (ns : List Int) (H' : Hp) (a ta pa f : Addr) (i : Nat) (wo : Si59.Wood) (cs : List (List (List Int))) (fuel : Nat) (out : List Int) : Prop where
  le : i ≤ ns.length
  rest : PyFlat.calls PySi59.shape fuel (ns.drop i) = some cs
  asked : ∀ c ∈ cs, Si59Neutral.asked1 c = true
  eq : PySi59.answers ns = out ++ due wo cs
  good : Good wo
  wood : WoodAt CT CW H' a ta pa wo
  found : H' f = some (.lst (out.map V.int))
  ft : f ≠ ta
  fp : f ≠ pa
  same : Same H H'
  na : H a = none
  nt : H ta = none
  np : H pa = none
  nf : H f = none
theorem ok_answers {f : Addr} {fd : FuncData} (F : Fun K "answers" "answers" sAnswers f fd) (T : Txt K mg CT CW) (M : Maker P w K mg base 1 "Wood" CW ["self"] (spWInit CT CW)) (c1 : Method P w K mg base 5 CW "answer" nAnswer (spAnswer K CT CW)) :
    FnOk P w K mg base CX0 6 f fd ["calls"] (spAnswers K) := by
  obtain ⟨wt, hwt, hwd⟩ := T.cWidths
  obtain ⟨f1, fd1, F1, m1, b1⟩ := c1.ex
  refine F.ok scAnswers (fun vs H Q E h => ?_) (fun cdv A outer s H vs Q E hr h => ⟨_,
    pss_cons (ps_set (i := 1) scAnswers.nd rfl (Or.inl rfl) (pe_new0 M (hr.mono (by decide)) (by rfl)))
      (pss_cons (ps_set (i := 2) scAnswers.nd rfl (Or.inl rfl) (pe_lst pa_nil))
      (pss_cons (ps_set (i := 3) scAnswers.nd rfl (Or.inl rfl) pe_int)
      (pss_cons (ps_while PassesOwn.never (pt_cmpR op_lt (pv 3) (pe_callB (r := rLen K) call_len_seq (by rfl) T.len PySem.boot_len (pa_cons (pv 0) pa_nil)) (nomark _))
        (pss_cons (ps_set (i := 4) scAnswers.nd rfl (Or.inl rfl) (pe_ix ix_list (pv 0) (pv 3) (fun _ _ => rfl)))
        (pss_cons (ps_set (i := 5) scAnswers.nd rfl (Or.inl rfl) (pe_op op_add (pv 3) pe_int))
        (pss_cons (ps_set (i := 3) scAnswers.nd rfl (Or.inl rfl) (pe_op op_add (pv 5) (pe_ix ix_tup (pe_glob (v := .ref wt) (by rfl) hwt rfl) (pv 4) (fun _ _ => rfl))))
        (pss_cons (ps_set (i := 6) scAnswers.nd rfl (Or.inl rfl) (pe_meth (pv 1) c1.cl m1 F1 hr b1 .nil pass0 (pa_cons (pv 4) (pa_cons (pe_slice sl_list (pv 0) (po_some (pv 5)) (po_some (pv 3))) pa_nil))))
        (pss_cons (ps_expr (pe_bm PySem.F.plainAttrs_list PySem.F.slot_list_append PySem.F.type_list_append mt_append (pv 2) (pa_cons (pe_callB (r := rLen K) call_len_seq (by rfl) T.len PySem.boot_len (pa_cons (pv 6) pa_nil)) pa_nil)))
        (pss_one (ps_expr (pe_bm PySem.F.plainAttrs_list PySem.F.slot_list_extend PySem.F.type_list_extend mt_extend (pv 2) (pa_cons (pv 6) pa_nil))))))))))
      (pss_one (ps_ret (pv 2)))))), ?_⟩)
  · obtain ⟨c, ns, rfl, _⟩ := h
    rfl
  · obtain ⟨c, ns, rfl, hc, hlen, hask, k⟩ := h
    obtain ⟨cs0, hcs0, hall0, heq0, hsz⟩ := asked_is hask
    intro x dx nx nd ne
    refine ⟨x, dx, rfl, upd_same, fun H1 ta pa W1 nt1 np1 kp => ⟨rfl, ?_⟩⟩
    have s1 : Same H H1 := Same.made nx nd kp
    have free : ∀ {l : Addr}, upd (upd H dx (.own x)) x (.ins CW dx []) l = none → H l = none := fun {l} e => by
      cases q : H l with
      | none => rfl
      | some o =>
        rw [upd_ne (ne_of_none q nx), upd_ne (ne_of_none q nd), q] at e
        cases e
    refine ⟨by decide, fun f hf => ?_⟩
    obtain ⟨⟨di, hwi⟩, ⟨rt, hrt, _⟩, ⟨rp, hrp, _⟩, _⟩ := id W1
    have start : Between CT CW H ns (upd H1 f (.lst [])) x ta pa f 0 Si59.init cs0 ns.length [] :=
      ⟨Nat.zero_le _, hcs0, hall0, heq0, good_init, W1.keep (same_upd hf), upd_same, (ne_of_none hrt hf).symm, (ne_of_none hrp hf).symm, s1.trans (same_upd hf), nx, free nt1, free np1, s1.free hf⟩
    refine while_by (fun σ H' => ∃ (a ta pa f : Addr) (i : Nat) (wo : Si59.Wood) (cs : List (List (List Int))) (fuel : Nat) (out : List Int) (v4 v5 v6 : Option V),
        σ = [some (.ref c), some (.ref a), some (.ref f), some (vn i), v4, v5, v6] ∧ Between CT CW H ns H' a ta pa f i wo cs fuel out)
      (fun σ _ => match σ with | [_, _, _, some (.int i), _, _, _] => ns.length - i.toNat | _ => 0)
      ⟨x, ta, pa, f, 0, Si59.init, cs0, ns.length, [], none, none, none, rfl, start⟩ ?_ ?_
    · rintro σ H2 ⟨a, ta, pa, f, i, wo, cs, fuel, out, v4, v5, v6, rfl, B⟩
      have hc2 : SqL K H2 c (ns.map V.int) := B.same.seq hc
      refine ⟨_, rfl, _, rfl, c, ns.map V.int, rfl, Or.inl hc2, _, _, rfl, rfl, _, rfl, ?_⟩
      rw [List.length_map]
      by_cases hi : i < ns.length
      · rw [decide_eq_true (show ((i : Nat) : Int) < (ns.length : Nat) by omega)]
        refine iteT ?_
        have hdr : ns.drop i = ns[i] :: ns.drop (i + 1) := List.drop_eq_getElem_cons hi
        have hget : ns[i]? = some ns[i] := by simp [hi]
        have hrest := B.rest
        rw [hdr] at hrest
        generalize ns[i] = p at *
        obtain ⟨j, n, fuel', cs', rfl, hwj, hn, rfl, hcs'⟩ := calls_cons hrest
        obtain ⟨q, hq, hbounds⟩ := asked1_is (B.asked _ List.mem_cons_self)
        have hl1 : (ns.drop (i + 1)).length = ns.length - (i + 1) := List.length_drop
        have hwords : Words j ((ns.drop (i + 1)).take n) q := words_is hwj (by rw [List.length_take]; omega) hbounds hq
        have heq := B.eq
        rw [due_cons hq] at heq
        -- number, begin, at
        refine ⟨_, rfl, _, rfl, c, ns.map V.int, _, vn j, rfl, rfl, hc2, atI_nat (by rw [List.getElem?_map, hget]; rfl), ?_⟩
        refine ⟨_, rfl, _, _, rfl, rfl, ?_⟩
        have hwid : atI ([.int 0, .int 4, .int 2, .int 2, .int 1, .int 1, .int 1, .int 1] : List V) ((j : Nat) : Int) = some (vn n) := atI_nat (by
          show (widths.map vn)[j]? = some (vn n)
          rw [List.getElem?_map, hwj]
          rfl)
        refine ⟨_, rfl, _, rfl, wt, _, _, vn n, rfl, rfl, hwd H2, hwid, _, _, rfl, rfl, ?_⟩
        have ei : V.int (((i : Nat) : Int) + 1 + ((n : Nat) : Int)) = vn (i + 1 + n) := rfl
        -- told
        obtain ⟨da, hia⟩ := B.wood.ins
        refine ⟨_, rfl, a, da, _, rfl, hia, wF_none (by decide +kernel) (by decide +kernel), _, rfl, _, rfl, _, rfl, _, rfl, _, rfl, _, rfl, c, ns.map V.int, rfl, hc2, fun l hl => ?_⟩
        have ecut : cutV (ns.map V.int) (some (((i : Nat) : Int) + 1)) (some (((i : Nat) : Int) + 1 + ((n : Nat) : Int))) = ((ns.drop (i + 1)).take n).map V.int := cutV_mid (b := i + 1) (n := n) (by omega)
        have sl : Same H2 (upd H2 l (.lst (((ns.drop (i + 1)).take n).map V.int))) := same_upd hl
        rw [ecut]
        have hlat : SqL K (upd H2 l (.lst (((ns.drop (i + 1)).take n).map V.int))) l (((ns.drop (i + 1)).take n).map V.int) := SqL.of upd_same
        generalize upd H2 l (.lst (((ns.drop (i + 1)).take n).map V.int)) = H3 at *
        refine ⟨a, ta, pa, l, wo, j, _, q, rfl, hwords, hlat, B.wood.keep sl, B.good, fun H4 D ta' pa' W4 ht' hp' keep hD hDat => ?_⟩
        -- what is as it was
        have hf3 : H3 f = some (.lst (out.map V.int)) := sl _ _ B.found
        have fa : f ≠ a := ne_of hf3 (sl _ _ hia) (by intro z; cases z)
        have hf4 : H4 f = some (.lst (out.map V.int)) := keep f _ hf3 fa B.ft B.fp
        have fD : f ≠ D := ne_of_none hf3 hD
        have ft' : f ≠ ta' := by
          rcases ht' with z | z
          · rw [z]
            exact B.ft
          · exact ne_of_none hf3 z
        have fp' : f ≠ pa' := by
          rcases hp' with z | z
          · rw [z]
            exact B.fp
          · exact ne_of_none hf3 z
        have s3 : Same H H3 := B.same.trans sl
        have nt' : H ta' = none := by
          rcases ht' with z | z
          · rw [z]
            exact B.nt
          · exact s3.free z
        have np' : H pa' = none := by
          rcases hp' with z | z
          · rw [z]
            exact B.np
          · exact s3.free z
        have s4 : Same H H4 := fun b o e => keep b o (s3 _ _ e) (ne_of_none e B.na) (ne_of_none e B.nt) (ne_of_none e B.np)
        have ltot : out.length + 1 + (ansOf wo q).length ≤ 10000000 := by
          rw [← heq0, heq] at hsz
          simp only [List.length_append, List.length_cons] at hsz
          omega
        -- found.append(len(told))
        refine ⟨_, rfl, Or.inl ⟨rfl, _, SqL.of hf4⟩, _, rfl, D, _, rfl, Or.inl (SqL.of hDat), f, _, _, rfl, rfl, hf4, small (m := 10000000) (by rw [List.length_map]; omega) (by decide), ?_⟩
        rw [List.length_map]
        have hD5 : upd H4 f (.lst (out.map V.int ++ [V.int ((ansOf wo q).length : Nat)])) D = some (.lst ((ansOf wo q).map V.int)) := (upd_ne fD.symm).trans hDat
        -- found.extend(told)
        refine ⟨_, rfl, Or.inl ⟨rfl, _, SqL.of upd_same⟩, _, rfl, f, D, _, _, rfl, rfl, upd_same, hD5, ?_, ?_⟩
        · rw [List.length_append, List.length_map, List.length_map]
          exact Nat.le_of_lt (small (m := 10000000) (by simp; omega) (by decide))
        · rw [upd_upd]
          refine ⟨⟨a, ta', pa', f, i + 1 + n, nextOf wo q, cs', fuel', out ++ (((ansOf wo q).length : Nat) : Int) :: ansOf wo q, _, _, _, rfl, ?_⟩, ?_⟩
          · refine ⟨by omega, ?_, fun c hc => B.asked c (List.mem_cons_of_mem _ hc), ?_, good_next B.good q, wood_upd W4 hf4 ft' fp', ?_, ft', fp', same_new s4 B.nf, B.na, nt', np', B.nf⟩
            · rw [List.drop_drop] at hcs'
              exact hcs'
            · rw [heq]
              simp only [List.append_assoc, List.cons_append]
            · rw [upd_same, List.map_append, List.map_cons]
              simp only [List.append_assoc, List.cons_append, List.nil_append]
          · show ns.length - (((i + 1 + n : Nat) : Int)).toNat < ns.length - ((i : Nat) : Int).toNat
            rw [Int.toNat_natCast, Int.toNat_natCast]
            omega
      · rw [decide_eq_false (show ¬ ((i : Nat) : Int) < (ns.length : Nat) by omega)]
        refine iteF ⟨_, rfl, k H2 f ?_⟩
        have hz : ns.drop i = [] := List.drop_eq_nil_of_le (by omega)
        have hr := B.rest
        rw [hz] at hr
        have e := calls_nil hr
        have heq := B.eq
        rw [e, due_nil, List.append_nil] at heq
        rw [heq]
        exact B.found
    · rintro σ H' R R' m ⟨v, e, u, e2, p, ys, e3, hs, i, j, e4, e5, b, e6, q⟩
      exact ⟨v, e, u, e2, p, ys, e3, hs, i, j, e4, e5, b, e6, m _ _ q⟩
end
end My

set_option Elab.async false
set_option maxRecDepth 100000
set_option maxHeartbeats 4000000
/-! # The end, part 1: what the top has written, every address a letter -/
namespace My
open PySem PySem.Spec PyProof.Rows L2
theorem all_mk {P : Program} {w : World} {K : PySem.W.Frag} {h : Heap} {mg : Str → Option Value} {fa CT CW wt f0 f1 f2 f3 f4 f5 f6 f7 f8 f9 f10 f11 f12 f13 f14 f15 f16 f17 f18 f19 f20 f21 f22 f23 f24 f25 f26 f27 f28 f29 f30 : Addr} (X : K.In h) (G : h.Ns mainGlobals mg) (hfa : mg "answers" = some (.ref fa))
    {od0 od1 od2 od3 od4 od5 od6 od7 od8 od9 od10 od11 od12 od13 od14 od15 od16 od17 od18 od19 od20 od21 od22 od23 od24 od25 od26 od27 od28 od29 od30 an0 an1 an2 an3 an4 an5 an6 an7 an8 an9 an10 an11 an12 an13 an14 an15 an16 an17 an18 an19 an20 an21 an22 an23 an24 an25 an26 an27 an28 an29 an30 odW : Option Addr} {sl0 sl1 sl2 sl3 sl4 sl5 sl6 sl7 sl8 sl9 sl10 sl11 sl12 sl13 sl14 sl15 sl16 sl17 sl18 sl19 sl20 sl21 sl22 sl23 sl24 sl25 sl26 sl27 sl28 sl29 sl30 slW : Array (Option Value)} {oc0 oc1 oc2 oc3 oc4 oc5 oc6 oc7 oc8 oc9 oc10 oc11 oc12 oc13 oc14 oc15 oc16 oc17 oc18 oc19 oc20 oc21 oc22 oc23 oc24 oc25 oc26 oc27 oc28 oc29 oc30 kV0 kV1 kV2 kV3 kV4 kV5 kV6 kV7 kV8 kV9 kV10 kV11 kV12 kV13 kV14 kV15 kV16 kV17 kV18 kV19 kV20 kV21 kV22 kV23 kV24 kV25 kV26 kV27 kV28 kV29 kV30 dc0 dc1 dc2 dc3 dc4 dc5 dc6 dc7 dc8 dc9 dc10 dc11 dc12 dc13 dc14 dc15 dc16 dc17 dc18 dc19 dc20 dc21 dc22 dc23 dc24 dc25 dc26 dc27 dc28 dc29 dc30 pm0 pm1 pm2 pm3 pm4 pm5 pm6 pm7 pm8 pm9 pm10 pm11 pm12 pm13 pm14 pm15 pm16 pm17 pm18 pm19 pm20 pm21 pm22 pm23 pm24 pm25 pm26 pm27 pm28 pm29 pm30 cd0 cd1 cd2 cd3 cd4 cd5 cd6 cd7 cd8 cd9 cd10 cd11 cd12 cd13 cd14 cd15 cd16 cd17 cd18 cd19 cd20 cd21 cd22 cd23 cd24 cd25 cd26 cd27 cd28 cd29 cd30 ct0 ct1 ct2 ct3 ct4 ct5 ct6 ct7 ct8 ct9 ct10 ct11 ct12 ct13 ct14 ct15 ct16 ct17 ct18 ct19 ct20 ct21 ct22 ct23 ct24 ct25 ct26 ct27 ct28 ct29 ct30 : Value} {t0 t1 t2 t3 t4 t5 t6 t7 t8 t9 t10 t11 t12 t13 t14 t15 u0 u1 u2 u3 u4 u5 u6 u7 : Tok} {nW : Nat}
    (aCT : PySem.W.nsIn K mainGlobals "Tree" = some (some (.ref CT)))
    (aCW : PySem.W.nsIn K mainGlobals "Wood" = some (some (.ref CW)))
    (a0 : PySem.W.nsIn K mainGlobals "choices_of" = some (some (.ref f0)))
    (l0 : K.lookup f0 = some ⟨oc0, od0, .func (PySem.W.fnOf "choices_of" "choices_of" (defArgs sChoices) (defBody sChoices) (defScope sChoices) .none kV0 dc0 pm0 an0 cd0 ct0), sl0⟩)
    (c0 : PySem.W.codeIn K cd0 "choices_of" = true)
    (k0 : PySem.W.keepIn K (.ref f0) = true)
    (a1 : PySem.W.nsIn K mainGlobals "are_all_in" = some (some (.ref f1)))
    (l1 : K.lookup f1 = some ⟨oc1, od1, .func (PySem.W.fnOf "are_all_in" "are_all_in" (defArgs sAllIn) (defBody sAllIn) (defScope sAllIn) .none kV1 dc1 pm1 an1 cd1 ct1), sl1⟩)
    (c1 : PySem.W.codeIn K cd1 "are_all_in" = true)
    (k1 : PySem.W.keepIn K (.ref f1) = true)
    (a2 : PySem.W.nsIn K mainGlobals "is_none_twice" = some (some (.ref f2)))
    (l2 : K.lookup f2 = some ⟨oc2, od2, .func (PySem.W.fnOf "is_none_twice" "is_none_twice" (defArgs sTwice) (defBody sTwice) (defScope sTwice) .none kV2 dc2 pm2 an2 cd2 ct2), sl2⟩)
    (c2 : PySem.W.codeIn K cd2 "is_none_twice" = true)
    (k2 : PySem.W.keepIn K (.ref f2) = true)
    (a3 : PySem.W.nsIn K mainGlobals "told" = some (some (.ref f3)))
    (l3 : K.lookup f3 = some ⟨oc3, od3, .func (PySem.W.fnOf "told" "told" (defArgs sTold) (defBody sTold) (defScope sTold) .none kV3 dc3 pm3 an3 cd3 ct3), sl3⟩)
    (c3 : PySem.W.codeIn K cd3 "told" = true)
    (k3 : PySem.W.keepIn K (.ref f3) = true)
    (a4 : PySem.W.nsIn K mainGlobals "fewest" = some (some (.ref f4)))
    (l4 : K.lookup f4 = some ⟨oc4, od4, .func (PySem.W.fnOf "fewest" "fewest" (defArgs sFewest) (defBody sFewest) (defScope sFewest) .none kV4 dc4 pm4 an4 cd4 ct4), sl4⟩)
    (c4 : PySem.W.codeIn K cd4 "fewest" = true)
    (k4 : PySem.W.keepIn K (.ref f4) = true)
    (a5 : PySem.W.nsIn K mainGlobals "most_points" = some (some (.ref f5)))
    (l5 : K.lookup f5 = some ⟨oc5, od5, .func (PySem.W.fnOf "most_points" "most_points" (defArgs sMostP) (defBody sMostP) (defScope sMostP) .none kV5 dc5 pm5 an5 cd5 ct5), sl5⟩)
    (c5 : PySem.W.codeIn K cd5 "most_points" = true)
    (k5 : PySem.W.keepIn K (.ref f5) = true)
    (a6 : PySem.W.nsIn K mainGlobals "is_from_to" = some (some (.ref f6)))
    (l6 : K.lookup f6 = some ⟨oc6, od6, .func (PySem.W.fnOf "is_from_to" "is_from_to" (defArgs sFromTo) (defBody sFromTo) (defScope sFromTo) .none kV6 dc6 pm6 an6 cd6 ct6), sl6⟩)
    (c6 : PySem.W.codeIn K cd6 "is_from_to" = true)
    (k6 : PySem.W.keepIn K (.ref f6) = true)
    (a7 : PySem.W.nsIn K mainGlobals "common" = some (some (.ref f7)))
    (l7 : K.lookup f7 = some ⟨oc7, od7, .func (PySem.W.fnOf "common" "common" (defArgs sCommon) (defBody sCommon) (defScope sCommon) .none kV7 dc7 pm7 an7 cd7 ct7), sl7⟩)
    (c7 : PySem.W.codeIn K cd7 "common" = true)
    (k7 : PySem.W.keepIn K (.ref f7) = true)
    (a8 : PySem.W.nsIn K mainGlobals "fraction" = some (some (.ref f8)))
    (l8 : K.lookup f8 = some ⟨oc8, od8, .func (PySem.W.fnOf "fraction" "fraction" (defArgs sFraction) (defBody sFraction) (defScope sFraction) .none kV8 dc8 pm8 an8 cd8 ct8), sl8⟩)
    (c8 : PySem.W.codeIn K cd8 "fraction" = true)
    (k8 : PySem.W.keepIn K (.ref f8) = true)
    (a9 : PySem.W.findIn K (.ref CT) "__init__" = some (some (.ref f9)))
    (i9 : PySem.W.isFn K (.ref f9) = true)
    (l9 : K.lookup f9 = some ⟨oc9, od9, .func (PySem.W.fnOf "__init__" "Tree.__init__" (defArgs sTreeInit) (defBody sTreeInit) (defScope sTreeInit) .none kV9 dc9 pm9 an9 cd9 ct9), sl9⟩)
    (c9 : PySem.W.codeIn K cd9 "Tree.__init__" = true)
    (k9 : PySem.W.keepIn K (.ref f9) = true)
    (a10 : PySem.W.nsIn K mainGlobals "square_of_distance" = some (some (.ref f10)))
    (l10 : K.lookup f10 = some ⟨oc10, od10, .func (PySem.W.fnOf "square_of_distance" "square_of_distance" (defArgs sSquare) (defBody sSquare) (defScope sSquare) .none kV10 dc10 pm10 an10 cd10 ct10), sl10⟩)
    (c10 : PySem.W.codeIn K cd10 "square_of_distance" = true)
    (k10 : PySem.W.keepIn K (.ref f10) = true)
    (a11 : PySem.W.nsIn K mainGlobals "is_wide_enough" = some (some (.ref f11)))
    (l11 : K.lookup f11 = some ⟨oc11, od11, .func (PySem.W.fnOf "is_wide_enough" "is_wide_enough" (defArgs sWide) (defBody sWide) (defScope sWide) .none kV11 dc11 pm11 an11 cd11 ct11), sl11⟩)
    (c11 : PySem.W.codeIn K cd11 "is_wide_enough" = true)
    (k11 : PySem.W.keepIn K (.ref f11) = true)
    (a12 : PySem.W.nsIn K mainGlobals "is_surely_counted" = some (some (.ref f12)))
    (l12 : K.lookup f12 = some ⟨oc12, od12, .func (PySem.W.fnOf "is_surely_counted" "is_surely_counted" (defArgs sSurely) (defBody sSurely) (defScope sSurely) .none kV12 dc12 pm12 an12 cd12 ct12), sl12⟩)
    (c12 : PySem.W.codeIn K cd12 "is_surely_counted" = true)
    (k12 : PySem.W.keepIn K (.ref f12) = true)
    (a13 : PySem.W.nsIn K mainGlobals "is_perhaps_counted" = some (some (.ref f13)))
    (l13 : K.lookup f13 = some ⟨oc13, od13, .func (PySem.W.fnOf "is_perhaps_counted" "is_perhaps_counted" (defArgs sPerhaps) (defBody sPerhaps) (defScope sPerhaps) .none kV13 dc13 pm13 an13 cd13 ct13), sl13⟩)
    (c13 : PySem.W.codeIn K cd13 "is_perhaps_counted" = true)
    (k13 : PySem.W.keepIn K (.ref f13) = true)
    (a14 : PySem.W.nsIn K mainGlobals "greatest_factor" = some (some (.ref f14)))
    (l14 : K.lookup f14 = some ⟨oc14, od14, .func (PySem.W.fnOf "greatest_factor" "greatest_factor" (defArgs sGreatest) (defBody sGreatest) (defScope sGreatest) .none kV14 dc14 pm14 an14 cd14 ct14), sl14⟩)
    (c14 : PySem.W.codeIn K cd14 "greatest_factor" = true)
    (k14 : PySem.W.keepIn K (.ref f14) = true)
    (a15 : PySem.W.nsIn K mainGlobals "sure_ones" = some (some (.ref f15)))
    (l15 : K.lookup f15 = some ⟨oc15, od15, .func (PySem.W.fnOf "sure_ones" "sure_ones" (defArgs sSureOnes) (defBody sSureOnes) (defScope sSureOnes) .none kV15 dc15 pm15 an15 cd15 ct15), sl15⟩)
    (c15 : PySem.W.codeIn K cd15 "sure_ones" = true)
    (k15 : PySem.W.keepIn K (.ref f15) = true)
    (a16 : PySem.W.nsIn K mainGlobals "possible_ones" = some (some (.ref f16)))
    (l16 : K.lookup f16 = some ⟨oc16, od16, .func (PySem.W.fnOf "possible_ones" "possible_ones" (defArgs sPossOnes) (defBody sPossOnes) (defScope sPossOnes) .none kV16 dc16 pm16 an16 cd16 ct16), sl16⟩)
    (c16 : PySem.W.codeIn K cd16 "possible_ones" = true)
    (k16 : PySem.W.keepIn K (.ref f16) = true)
    (a17 : PySem.W.nsIn K mainGlobals "is_place" = some (some (.ref f17)))
    (l17 : K.lookup f17 = some ⟨oc17, od17, .func (PySem.W.fnOf "is_place" "is_place" (defArgs sIsPlace) (defBody sIsPlace) (defScope sIsPlace) .none kV17 dc17 pm17 an17 cd17 ct17), sl17⟩)
    (c17 : PySem.W.codeIn K cd17 "is_place" = true)
    (k17 : PySem.W.keepIn K (.ref f17) = true)
    (a18 : PySem.W.nsIn K mainGlobals "is_factor" = some (some (.ref f18)))
    (l18 : K.lookup f18 = some ⟨oc18, od18, .func (PySem.W.fnOf "is_factor" "is_factor" (defArgs sIsFactor) (defBody sIsFactor) (defScope sIsFactor) .none kV18 dc18 pm18 an18 cd18 ct18), sl18⟩)
    (c18 : PySem.W.codeIn K cd18 "is_factor" = true)
    (k18 : PySem.W.keepIn K (.ref f18) = true)
    (a19 : PySem.W.findIn K (.ref CW) "__init__" = some (some (.ref f19)))
    (i19 : PySem.W.isFn K (.ref f19) = true)
    (l19 : K.lookup f19 = some ⟨oc19, od19, .func (PySem.W.fnOf "__init__" "Wood.__init__" (defArgs sWInit) (defBody sWInit) (defScope sWInit) .none kV19 dc19 pm19 an19 cd19 ct19), sl19⟩)
    (c19 : PySem.W.codeIn K cd19 "Wood.__init__" = true)
    (k19 : PySem.W.keepIn K (.ref f19) = true)
    (a20 : PySem.W.findIn K (.ref CW) "begins" = some (some (.ref f20)))
    (i20 : PySem.W.isFn K (.ref f20) = true)
    (l20 : K.lookup f20 = some ⟨oc20, od20, .func (PySem.W.fnOf "begins" "Wood.begins" (defArgs sBegins) (defBody sBegins) (defScope sBegins) .none kV20 dc20 pm20 an20 cd20 ct20), sl20⟩)
    (c20 : PySem.W.codeIn K cd20 "Wood.begins" = true)
    (k20 : PySem.W.keepIn K (.ref f20) = true)
    (a21 : PySem.W.findIn K (.ref CW) "tree" = some (some (.ref f21)))
    (i21 : PySem.W.isFn K (.ref f21) = true)
    (l21 : K.lookup f21 = some ⟨oc21, od21, .func (PySem.W.fnOf "tree" "Wood.tree" (defArgs sTree) (defBody sTree) (defScope sTree) .none kV21 dc21 pm21 an21 cd21 ct21), sl21⟩)
    (c21 : PySem.W.codeIn K cd21 "Wood.tree" = true)
    (k21 : PySem.W.keepIn K (.ref f21) = true)
    (a22 : PySem.W.findIn K (.ref CW) "point" = some (some (.ref f22)))
    (i22 : PySem.W.isFn K (.ref f22) = true)
    (l22 : K.lookup f22 = some ⟨oc22, od22, .func (PySem.W.fnOf "point" "Wood.point" (defArgs sPoint) (defBody sPoint) (defScope sPoint) .none kV22 dc22 pm22 an22 cd22 ct22), sl22⟩)
    (c22 : PySem.W.codeIn K cd22 "Wood.point" = true)
    (k22 : PySem.W.keepIn K (.ref f22) = true)
    (a23 : PySem.W.findIn K (.ref CW) "count" = some (some (.ref f23)))
    (i23 : PySem.W.isFn K (.ref f23) = true)
    (l23 : K.lookup f23 = some ⟨oc23, od23, .func (PySem.W.fnOf "count" "Wood.count" (defArgs sCount) (defBody sCount) (defScope sCount) .none kV23 dc23 pm23 an23 cd23 ct23), sl23⟩)
    (c23 : PySem.W.codeIn K cd23 "Wood.count" = true)
    (k23 : PySem.W.keepIn K (.ref f23) = true)
    (a24 : PySem.W.findIn K (.ref CW) "worth" = some (some (.ref f24)))
    (i24 : PySem.W.isFn K (.ref f24) = true)
    (l24 : K.lookup f24 = some ⟨oc24, od24, .func (PySem.W.fnOf "worth" "Wood.worth" (defArgs sWorth) (defBody sWorth) (defScope sWorth) .none kV24 dc24 pm24 an24 cd24 ct24), sl24⟩)
    (c24 : PySem.W.codeIn K cd24 "Wood.worth" = true)
    (k24 : PySem.W.keepIn K (.ref f24) = true)
    (a25 : PySem.W.findIn K (.ref CW) "most_at" = some (some (.ref f25)))
    (i25 : PySem.W.isFn K (.ref f25) = true)
    (l25 : K.lookup f25 = some ⟨oc25, od25, .func (PySem.W.fnOf "most_at" "Wood.most_at" (defArgs sMostAt) (defBody sMostAt) (defScope sMostAt) .none kV25 dc25 pm25 an25 cd25 ct25), sl25⟩)
    (c25 : PySem.W.codeIn K cd25 "Wood.most_at" = true)
    (k25 : PySem.W.keepIn K (.ref f25) = true)
    (a26 : PySem.W.findIn K (.ref CW) "most" = some (some (.ref f26)))
    (i26 : PySem.W.isFn K (.ref f26) = true)
    (l26 : K.lookup f26 = some ⟨oc26, od26, .func (PySem.W.fnOf "most" "Wood.most" (defArgs sMost) (defBody sMost) (defScope sMost) .none kV26 dc26 pm26 an26 cd26 ct26), sl26⟩)
    (c26 : PySem.W.codeIn K cd26 "Wood.most" = true)
    (k26 : PySem.W.keepIn K (.ref f26) = true)
    (a27 : PySem.W.findIn K (.ref CW) "cover" = some (some (.ref f27)))
    (i27 : PySem.W.isFn K (.ref f27) = true)
    (l27 : K.lookup f27 = some ⟨oc27, od27, .func (PySem.W.fnOf "cover" "Wood.cover" (defArgs sCover) (defBody sCover) (defScope sCover) .none kV27 dc27 pm27 an27 cd27 ct27), sl27⟩)
    (c27 : PySem.W.codeIn K cd27 "Wood.cover" = true)
    (k27 : PySem.W.keepIn K (.ref f27) = true)
    (a28 : PySem.W.findIn K (.ref CW) "once" = some (some (.ref f28)))
    (i28 : PySem.W.isFn K (.ref f28) = true)
    (l28 : K.lookup f28 = some ⟨oc28, od28, .func (PySem.W.fnOf "once" "Wood.once" (defArgs sOnce) (defBody sOnce) (defScope sOnce) .none kV28 dc28 pm28 an28 cd28 ct28), sl28⟩)
    (c28 : PySem.W.codeIn K cd28 "Wood.once" = true)
    (k28 : PySem.W.keepIn K (.ref f28) = true)
    (a29 : PySem.W.findIn K (.ref CW) "answer" = some (some (.ref f29)))
    (i29 : PySem.W.isFn K (.ref f29) = true)
    (l29 : K.lookup f29 = some ⟨oc29, od29, .func (PySem.W.fnOf "answer" "Wood.answer" (defArgs sAnswer) (defBody sAnswer) (defScope sAnswer) .none kV29 dc29 pm29 an29 cd29 ct29), sl29⟩)
    (c29 : PySem.W.codeIn K cd29 "Wood.answer" = true)
    (k29 : PySem.W.keepIn K (.ref f29) = true)
    (a30 : PySem.W.nsIn K mainGlobals "answers" = some (some (.ref f30)))
    (l30 : K.lookup f30 = some ⟨oc30, od30, .func (PySem.W.fnOf "answers" "answers" (defArgs sAnswers) (defBody sAnswers) (defScope sAnswers) .none kV30 dc30 pm30 an30 cd30 ct30), sl30⟩)
    (c30 : PySem.W.codeIn K cd30 "answers" = true)
    (k30 : PySem.W.keepIn K (.ref f30) = true)
    (pgCT : PySem.W.plainGet K CT Str.empty = true)
    (hdCT : PySem.W.hasDictIn K CT = true)
    (poCT : PySem.W.plainOver K CT = true)
    (saCT : PySem.W.findIn K (.ref CT) "__setattr__" = some (some (.builtin "object.__setattr__")))
    (mkCT : PySem.W.makesIn K CT = true)
    (kcCT : PySem.W.keepIn K (.ref CT) = true)
    (pgCW : PySem.W.plainGet K CW Str.empty = true)
    (hdCW : PySem.W.hasDictIn K CW = true)
    (poCW : PySem.W.plainOver K CW = true)
    (saCW : PySem.W.findIn K (.ref CW) "__setattr__" = some (some (.builtin "object.__setattr__")))
    (mkCW : PySem.W.makesIn K CW = true)
    (kcCW : PySem.W.keepIn K (.ref CW) = true)
    (nplace : PySem.W.findIn K (.ref CT) "place" = some none)
    (nlow : PySem.W.findIn K (.ref CT) "low" = some none)
    (nhigh : PySem.W.findIn K (.ref CT) "high" = some none)
    (ntrees : PySem.W.findIn K (.ref CW) "trees" = some none)
    (npoints : PySem.W.findIn K (.ref CW) "points" = some none)
    (blen : PySem.W.nsIn K mainGlobals "len" = some none)
    (brange : PySem.W.nsIn K mainGlobals "range" = some none)
    (breversed : PySem.W.nsIn K mainGlobals "reversed" = some none)
    (benumerate : PySem.W.nsIn K mainGlobals "enumerate" = some none)
    (bmin : PySem.W.nsIn K mainGlobals "min" = some none)
    (bmax : PySem.W.nsIn K mainGlobals "max" = some none)
    (bsum : PySem.W.nsIn K mainGlobals "sum" = some none)
    (bsorted : PySem.W.nsIn K mainGlobals "sorted" = some none)
    (e0 : PySem.W.nsIn K mainGlobals "MOST_FACTOR" = some (some (.int 1000 t0)))
    (e1 : PySem.W.nsIn K mainGlobals "NOT_AS_TOLD" = some (some (.int (-1) t1)))
    (e2 : PySem.W.nsIn K mainGlobals "NO_POINT" = some (some (.int (-2) t2)))
    (e3 : PySem.W.nsIn K mainGlobals "FULL" = some (some (.int (-5) t3)))
    (e4 : PySem.W.nsIn K mainGlobals "NOT_SO" = some (some (.int (-6) t4)))
    (e5 : PySem.W.nsIn K mainGlobals "MOST_TREES" = some (some (.int 12 t5)))
    (e6 : PySem.W.nsIn K mainGlobals "MOST_POINTS" = some (some (.int 8 t6)))
    (e7 : PySem.W.nsIn K mainGlobals "MOST_PLACE" = some (some (.int 2000 t7)))
    (e8 : PySem.W.nsIn K mainGlobals "MOST_THICKNESS" = some (some (.int 300 t8)))
    (e9 : PySem.W.nsIn K mainGlobals "BEGINS" = some (some (.int 0 t9)))
    (e10 : PySem.W.nsIn K mainGlobals "TREE" = some (some (.int 1 t10)))
    (e11 : PySem.W.nsIn K mainGlobals "POINT" = some (some (.int 2 t11)))
    (e12 : PySem.W.nsIn K mainGlobals "COUNT" = some (some (.int 3 t12)))
    (e13 : PySem.W.nsIn K mainGlobals "WORTH" = some (some (.int 4 t13)))
    (e14 : PySem.W.nsIn K mainGlobals "MOST" = some (some (.int 5 t14)))
    (e15 : PySem.W.nsIn K mainGlobals "COVER" = some (some (.int 6 t15)))
    (aW : PySem.W.nsIn K mainGlobals "WIDTHS" = some (some (.ref wt)))
    (lW : K.lookup wt = some ⟨.type "tuple", odW, .seq #[.int 0 u0, .int 4 u1, .int 2 u2, .int 2 u3, .int 1 u4, .int 1 u5, .int 1 u6, .int 1 u7] nW, slW⟩) :
    ∃ fd : FuncData, (∀ (s : Shared) (us : List Value), us.length = (["calls"] : List Str).length → BindsTo s fd ⟨us, []⟩ ((["calls"] : List Str).zip us)) ∧ ∀ base : Heap, K.In base → base.Ns mainGlobals mg → FnOk P w K mg base CX0 6 fa fd ["calls"] (spAnswers K) := by
  have e := hfa.symm.trans (PySem.W.mg_of X G a30)
  cases e
  have hW : ∀ H : Hp, SqT K H wt [.int 0, .int 4, .int 2, .int 2, .int 1, .int 1, .int 1, .int 1] := fun H =>
    Or.inr ⟨_, #[.int 0 u0, .int 4 u1, .int 2 u2, .int 2 u3, .int 1 u4, .int 1 u5, .int 1 u6, .int 1 u7], nW, lW, rfl, rfl, (by show 8 ≤ sizeLine; decide), .cons ⟨_, rfl⟩ (.cons ⟨_, rfl⟩ (.cons ⟨_, rfl⟩ (.cons ⟨_, rfl⟩ (.cons ⟨_, rfl⟩ (.cons ⟨_, rfl⟩ (.cons ⟨_, rfl⟩ (.cons ⟨_, rfl⟩ (.nil))))))))⟩
  have T : Txt K mg CT CW := ⟨⟨pgCT, hdCT, poCT, saCT⟩, ⟨pgCW, hdCW, poCW, saCW⟩, nplace, nlow, nhigh, ntrees, npoints,
    PySem.W.mg_none_of X G blen, PySem.W.mg_none_of X G brange, PySem.W.mg_none_of X G breversed, PySem.W.mg_none_of X G benumerate, PySem.W.mg_none_of X G bmin, PySem.W.mg_none_of X G bmax, PySem.W.mg_none_of X G bsum, PySem.W.mg_none_of X G bsorted,
    const_int (PySem.W.mg_of X G e0), const_int (PySem.W.mg_of X G e1), const_int (PySem.W.mg_of X G e2), const_int (PySem.W.mg_of X G e3), const_int (PySem.W.mg_of X G e4), const_int (PySem.W.mg_of X G e5), const_int (PySem.W.mg_of X G e6), const_int (PySem.W.mg_of X G e7), const_int (PySem.W.mg_of X G e8), const_int (PySem.W.mg_of X G e9), const_int (PySem.W.mg_of X G e10), const_int (PySem.W.mg_of X G e11), const_int (PySem.W.mg_of X G e12), const_int (PySem.W.mg_of X G e13), const_int (PySem.W.mg_of X G e14), const_int (PySem.W.mg_of X G e15),
    ⟨wt, PySem.W.mg_of X G aW, hW⟩⟩
  have F0 := fun_mk (st := sChoices) l0 c0 k0
  have B0 := F0.binds (ps := ["many"]) fun _ _ _ _ _ _ us hl => match us, hl with | [_], _ => rfl
  have F1 := fun_mk (st := sAllIn) l1 c1 k1
  have B1 := F1.binds (ps := ["choice", "seen", "many"]) fun _ _ _ _ _ _ us hl => match us, hl with | [_, _, _], _ => rfl
  have F2 := fun_mk (st := sTwice) l2 c2 k2
  have B2 := F2.binds (ps := ["choice", "seen"]) fun _ _ _ _ _ _ us hl => match us, hl with | [_, _], _ => rfl
  have F3 := fun_mk (st := sTold) l3 c3 k3
  have B3 := F3.binds (ps := ["some", "size"]) fun _ _ _ _ _ _ us hl => match us, hl with | [_, _], _ => rfl
  have F4 := fun_mk (st := sFewest) l4 c4 k4
  have B4 := F4.binds (ps := ["some"]) fun _ _ _ _ _ _ us hl => match us, hl with | [_], _ => rfl
  have F5 := fun_mk (st := sMostP) l5 c5 k5
  have B5 := F5.binds (ps := ["some"]) fun _ _ _ _ _ _ us hl => match us, hl with | [_], _ => rfl
  have F6 := fun_mk (st := sFromTo) l6 c6 k6
  have B6 := F6.binds (ps := ["number", "least", "most"]) fun _ _ _ _ _ _ us hl => match us, hl with | [_, _, _], _ => rfl
  have F7 := fun_mk (st := sCommon) l7 c7 k7
  have B7 := F7.binds (ps := ["one", "other"]) fun _ _ _ _ _ _ us hl => match us, hl with | [_, _], _ => rfl
  have F8 := fun_mk (st := sFraction) l8 c8 k8
  have B8 := F8.binds (ps := ["top", "bottom"]) fun _ _ _ _ _ _ us hl => match us, hl with | [_, _], _ => rfl
  have F9 := fun_mk (st := sTreeInit) l9 c9 k9
  have B9 := F9.binds (ps := ["self", "x", "y", "thickness", "wrong"]) fun _ _ _ _ _ _ us hl => match us, hl with | [_, _, _, _, _], _ => rfl
  have F10 := fun_mk (st := sSquare) l10 c10 k10
  have B10 := F10.binds (ps := ["one", "other"]) fun _ _ _ _ _ _ us hl => match us, hl with | [_, _], _ => rfl
  have F11 := fun_mk (st := sWide) l11 c11 k11
  have B11 := F11.binds (ps := ["thickness", "square", "factor"]) fun _ _ _ _ _ _ us hl => match us, hl with | [_, _, _], _ => rfl
  have F12 := fun_mk (st := sSurely) l12 c12 k12
  have B12 := F12.binds (ps := ["tree", "point", "factor"]) fun _ _ _ _ _ _ us hl => match us, hl with | [_, _, _], _ => rfl
  have F13 := fun_mk (st := sPerhaps) l13 c13 k13
  have B13 := F13.binds (ps := ["tree", "point", "factor"]) fun _ _ _ _ _ _ us hl => match us, hl with | [_, _, _], _ => rfl
  have F14 := fun_mk (st := sGreatest) l14 c14 k14
  have B14 := F14.binds (ps := ["tree", "point"]) fun _ _ _ _ _ _ us hl => match us, hl with | [_, _], _ => rfl
  have F15 := fun_mk (st := sSureOnes) l15 c15 k15
  have B15 := F15.binds (ps := ["trees", "point", "factor"]) fun _ _ _ _ _ _ us hl => match us, hl with | [_, _, _], _ => rfl
  have F16 := fun_mk (st := sPossOnes) l16 c16 k16
  have B16 := F16.binds (ps := ["trees", "point", "factor"]) fun _ _ _ _ _ _ us hl => match us, hl with | [_, _, _], _ => rfl
  have F17 := fun_mk (st := sIsPlace) l17 c17 k17
  have B17 := F17.binds (ps := ["x", "y"]) fun _ _ _ _ _ _ us hl => match us, hl with | [_, _], _ => rfl
  have F18 := fun_mk (st := sIsFactor) l18 c18 k18
  have B18 := F18.binds (ps := ["k"]) fun _ _ _ _ _ _ us hl => match us, hl with | [_], _ => rfl
  have F19 := fun_mk (st := sWInit) l19 c19 k19
  have B19 := F19.binds (ps := ["self"]) fun _ _ _ _ _ _ us hl => match us, hl with | [_], _ => rfl
  have F20 := fun_mk (st := sBegins) l20 c20 k20
  have B20 := F20.binds (ps := ["self"]) fun _ _ _ _ _ _ us hl => match us, hl with | [_], _ => rfl
  have F21 := fun_mk (st := sTree) l21 c21 k21
  have B21 := F21.binds (ps := ["self", "x", "y", "thickness", "wrong"]) fun _ _ _ _ _ _ us hl => match us, hl with | [_, _, _, _, _], _ => rfl
  have F22 := fun_mk (st := sPoint) l22 c22 k22
  have B22 := F22.binds (ps := ["self", "x", "y"]) fun _ _ _ _ _ _ us hl => match us, hl with | [_, _, _], _ => rfl
  have F23 := fun_mk (st := sCount) l23 c23 k23
  have B23 := F23.binds (ps := ["self", "p", "k"]) fun _ _ _ _ _ _ us hl => match us, hl with | [_, _, _], _ => rfl
  have F24 := fun_mk (st := sWorth) l24 c24 k24
  have B24 := F24.binds (ps := ["self", "k"]) fun _ _ _ _ _ _ us hl => match us, hl with | [_, _], _ => rfl
  have F25 := fun_mk (st := sMostAt) l25 c25 k25
  have B25 := F25.binds (ps := ["self", "point", "n"]) fun _ _ _ _ _ _ us hl => match us, hl with | [_, _, _], _ => rfl
  have F26 := fun_mk (st := sMost) l26 c26 k26
  have B26 := F26.binds (ps := ["self", "n"]) fun _ _ _ _ _ _ us hl => match us, hl with | [_, _], _ => rfl
  have F27 := fun_mk (st := sCover) l27 c27 k27
  have B27 := F27.binds (ps := ["self", "k"]) fun _ _ _ _ _ _ us hl => match us, hl with | [_, _], _ => rfl
  have F28 := fun_mk (st := sOnce) l28 c28 k28
  have B28 := F28.binds (ps := ["self", "k"]) fun _ _ _ _ _ _ us hl => match us, hl with | [_, _], _ => rfl
  have F29 := fun_mk (st := sAnswer) l29 c29 k29
  have B29 := F29.binds (ps := ["self", "number", "words"]) fun _ _ _ _ _ _ us hl => match us, hl with | [_, _, _], _ => rfl
  have F30 := fun_mk (st := sAnswers) l30 c30 k30
  refine ⟨PySem.W.fnOf "answers" "answers" (defArgs sAnswers) (defBody sAnswers) (defScope sAnswers) .none kV30 dc30 pm30 an30 cd30 ct30, fun s us hu => match us, hu with | [_], _ => .of_eq rfl, fun base _ _ => ?_⟩
  have gFromTo : Callee P w K mg base 1 "is_from_to" ["number", "least", "most"] spFromTo := ⟨⟨_, _, ok_fromto F6, PySem.W.mg_of X G a6, k6, B6⟩⟩
  have gCommon : Callee P w K mg base 1 "common" ["one", "other"] spCommon := ⟨⟨_, _, ok_common F7, PySem.W.mg_of X G a7, k7, B7⟩⟩
  have gFraction : Callee P w K mg base 2 "fraction" ["top", "bottom"] spFraction := ⟨⟨_, _, ok_fraction F8 gCommon, PySem.W.mg_of X G a8, k8, B8⟩⟩
  have mTree : Maker P w K mg base 1 "Tree" CT ["self", "x", "y", "thickness", "wrong"] (spTreeInit CT) := ⟨⟨_, _, ok_treeinit F9 T, ⟨mkCT, a9, i9, kcCT⟩, B9⟩, PySem.W.mg_of X G aCT⟩
  have gSquare : Callee P w K mg base 1 "square_of_distance" ["one", "other"] spSquare := ⟨⟨_, _, ok_square F10, PySem.W.mg_of X G a10, k10, B10⟩⟩
  have gWide : Callee P w K mg base 1 "is_wide_enough" ["thickness", "square", "factor"] spWide := ⟨⟨_, _, ok_wide F11, PySem.W.mg_of X G a11, k11, B11⟩⟩
  have gSurely : Callee P w K mg base 2 "is_surely_counted" ["tree", "point", "factor"] (spSurely CT) := ⟨⟨_, _, ok_surely F12 T gSquare gWide, PySem.W.mg_of X G a12, k12, B12⟩⟩
  have gPerhaps : Callee P w K mg base 2 "is_perhaps_counted" ["tree", "point", "factor"] (spPerhaps CT) := ⟨⟨_, _, ok_perhaps F13 T gSquare gWide, PySem.W.mg_of X G a13, k13, B13⟩⟩
  have gGreatest : Callee P w K mg base 2 "greatest_factor" ["tree", "point"] (spGreatest CT) := ⟨⟨_, _, ok_greatest F14 T gSquare, PySem.W.mg_of X G a14, k14, B14⟩⟩
  have gSure : Callee P w K mg base 3 "sure_ones" ["trees", "point", "factor"] (spSureOnes CT) := ⟨⟨_, _, ok_sureones F15 T gSurely, PySem.W.mg_of X G a15, k15, B15⟩⟩
  have gPoss : Callee P w K mg base 3 "possible_ones" ["trees", "point", "factor"] (spPossOnes CT) := ⟨⟨_, _, ok_possones F16 T gPerhaps, PySem.W.mg_of X G a16, k16, B16⟩⟩
  have gPlace : Callee P w K mg base 2 "is_place" ["x", "y"] spIsPlace := ⟨⟨_, _, ok_isplace F17 T gFromTo, PySem.W.mg_of X G a17, k17, B17⟩⟩
  have gFactor : Callee P w K mg base 2 "is_factor" ["k"] spIsFactor := ⟨⟨_, _, ok_isfactor F18 T gFromTo, PySem.W.mg_of X G a18, k18, B18⟩⟩
  have gChoices : Callee P w K mg base 1 "choices_of" ["many"] spChoices := ⟨⟨_, _, ok_choices F0 T, PySem.W.mg_of X G a0, k0, B0⟩⟩
  have gAllIn : Callee P w K mg base 1 "are_all_in" ["choice", "seen", "many"] spAllIn := ⟨⟨_, _, ok_allin F1 T, PySem.W.mg_of X G a1, k1, B1⟩⟩
  have gTwice : Callee P w K mg base 1 "is_none_twice" ["choice", "seen"] spTwice := ⟨⟨_, _, ok_twice F2, PySem.W.mg_of X G a2, k2, B2⟩⟩
  have gTold : Callee P w K mg base 1 "told" ["some", "size"] spTold := ⟨⟨_, _, ok_told F3 T, PySem.W.mg_of X G a3, k3, B3⟩⟩
  have gFewest : Callee P w K mg base 2 "fewest" ["some"] (spBest fun a b => decide (a < b)) := ⟨⟨_, _, ok_fewest F4 T gTold, PySem.W.mg_of X G a4, k4, B4⟩⟩
  have gMostP : Callee P w K mg base 2 "most_points" ["some"] (spBest fun a b => decide (b < a)) := ⟨⟨_, _, ok_mostp F5 T gTold, PySem.W.mg_of X G a5, k5, B5⟩⟩
  have mWood : Maker P w K mg base 1 "Wood" CW ["self"] (spWInit CT CW) := ⟨⟨_, _, ok_winit F19 T, ⟨mkCW, a19, i19, kcCW⟩, B19⟩, PySem.W.mg_of X G aCW⟩
  have gBegins : Method P w K mg base 1 CW "begins" ["self"] (spM CT CW relBegins) := ⟨⟨_, _, ok_begins F20 T, ⟨a20, i20, k20⟩, B20⟩, T.cw⟩
  have gTree : Method P w K mg base 3 CW "tree" ["self", "x", "y", "thickness", "wrong"] (spM CT CW relTree) := ⟨⟨_, _, ok_tree F21 T gPlace gFromTo mTree, ⟨a21, i21, k21⟩, B21⟩, T.cw⟩
  have gPoint : Method P w K mg base 3 CW "point" ["self", "x", "y"] (spM CT CW relPoint) := ⟨⟨_, _, ok_point F22 T gPlace, ⟨a22, i22, k22⟩, B22⟩, T.cw⟩
  have gCount : Method P w K mg base 4 CW "count" ["self", "p", "k"] (spM CT CW relCount) := ⟨⟨_, _, ok_count F23 T gFactor gSure gPoss, ⟨a23, i23, k23⟩, B23⟩, T.cw⟩
  have gWorth : Method P w K mg base 4 CW "worth" ["self", "k"] (spM CT CW relWorth) := ⟨⟨_, _, ok_worth F24 T gFactor gSure gFraction, ⟨a24, i24, k24⟩, B24⟩, T.cw⟩
  have gMostAt : Method P w K mg base 3 CW "most_at" ["self", "point", "n"] (spMostAt CT CW) := ⟨⟨_, _, ok_mostat F25 T gGreatest, ⟨a25, i25, k25⟩, B25⟩, T.cw⟩
  have gMost : Method P w K mg base 4 CW "most" ["self", "n"] (spM CT CW relMost) := ⟨⟨_, _, ok_most F26 T gMostAt, ⟨a26, i26, k26⟩, B26⟩, T.cw⟩
  have gCover : Method P w K mg base 4 CW "cover" ["self", "k"] (spM CT CW relCover) := ⟨⟨_, _, ok_cover F27 T gFactor gSure gChoices gAllIn gFewest, ⟨a27, i27, k27⟩, B27⟩, T.cw⟩
  have gOnce : Method P w K mg base 4 CW "once" ["self", "k"] (spM CT CW relOnce) := ⟨⟨_, _, ok_once F28 T gFactor gPoss gChoices gTwice gMostP, ⟨a28, i28, k28⟩, B28⟩, T.cw⟩
  have gAnswer : Method P w K mg base 5 CW "answer" ["self", "number", "words"] (spAnswer K CT CW) := ⟨⟨_, _, ok_answer F29 T gBegins gTree gPoint gCount gWorth gMost gCover gOnce, ⟨a29, i29, k29⟩, B29⟩, T.cw⟩
  exact ok_answers F30 T mWood gAnswer
end My

set_option Elab.async false
/-! # The end, part 2: the statement -/
open PySem PySem.W PyProof.Rows
set_option maxRecDepth 100000 in
set_option maxHeartbeats 0 in
theorem PySem.Challenge.cw_treesamples_s01_answers_holds : PySem.Challenge.rw_treesamples_s01_answers.Holds := by
  w_on; k_headS; (case hw => exact ⟨[.list [.int 0]], by decide +kernel, by decide +kernel⟩)
  k_fillS
  refine L2.walk_specK (r := PySem.Challenge.rw_treesamples_s01_answers) (k := 6) (CX := L2.CX0) (ps := ["calls"]) (sp := My.spAnswers) (by decide +kernel) rfl rfl ⟨rfl, by decide, by decide⟩ (fun w h Y => PySem.W.kIn_of Y) ?F ?S (fun _ _ _ _ z => z)
  case F =>
    intro w mg fa h Y KX G hmg
    refine' My.all_mk KX G hmg ?aCT ?aCW ?a0 ?l0 ?c0 ?k0 ?a1 ?l1 ?c1 ?k1 ?a2 ?l2 ?c2 ?k2 ?a3 ?l3 ?c3 ?k3 ?a4 ?l4 ?c4 ?k4 ?a5 ?l5 ?c5 ?k5 ?a6 ?l6 ?c6 ?k6 ?a7 ?l7 ?c7 ?k7 ?a8 ?l8 ?c8 ?k8 ?a9 ?i9 ?l9 ?c9 ?k9 ?a10 ?l10 ?c10 ?k10 ?a11 ?l11 ?c11 ?k11 ?a12 ?l12 ?c12 ?k12 ?a13 ?l13 ?c13 ?k13 ?a14 ?l14 ?c14 ?k14 ?a15 ?l15 ?c15 ?k15 ?a16 ?l16 ?c16 ?k16 ?a17 ?l17 ?c17 ?k17 ?a18 ?l18 ?c18 ?k18 ?a19 ?i19 ?l19 ?c19 ?k19 ?a20 ?i20 ?l20 ?c20 ?k20 ?a21 ?i21 ?l21 ?c21 ?k21 ?a22 ?i22 ?l22 ?c22 ?k22 ?a23 ?i23 ?l23 ?c23 ?k23 ?a24 ?i24 ?l24 ?c24 ?k24 ?a25 ?i25 ?l25 ?c25 ?k25 ?a26 ?i26 ?l26 ?c26 ?k26 ?a27 ?i27 ?l27 ?c27 ?k27 ?a28 ?i28 ?l28 ?c28 ?k28 ?a29 ?i29 ?l29 ?c29 ?k29 ?a30 ?l30 ?c30 ?k30 ?pgCT ?hdCT ?poCT ?saCT ?mkCT ?kcCT ?pgCW ?hdCW ?poCW ?saCW ?mkCW ?kcCW ?nplace ?nlow ?nhigh ?ntrees ?npoints ?blen ?brange ?breversed ?benumerate ?bmin ?bmax ?bsum ?bsorted ?e0 ?e1 ?e2 ?e3 ?e4 ?e5 ?e6 ?e7 ?e8 ?e9 ?e10 ?e11 ?e12 ?e13 ?e14 ?e15 ?aW ?lW
    (case aCT => k_is)
    (case aCW => k_is)
    (case a0 => k_is)
    (case l0 => k_is)
    (case c0 => k_is)
    (case k0 => k_is)
    (case a1 => k_is)
    (case l1 => k_is)
    (case c1 => k_is)
    (case k1 => k_is)
    (case a2 => k_is)
    (case l2 => k_is)
    (case c2 => k_is)
    (case k2 => k_is)
    (case a3 => k_is)
    (case l3 => k_is)
    (case c3 => k_is)
    (case k3 => k_is)
    (case a4 => k_is)
    (case l4 => k_is)
    (case c4 => k_is)
    (case k4 => k_is)
    (case a5 => k_is)
    (case l5 => k_is)
    (case c5 => k_is)
    (case k5 => k_is)
    (case a6 => k_is)
    (case l6 => k_is)
    (case c6 => k_is)
    (case k6 => k_is)
    (case a7 => k_is)
    (case l7 => k_is)
    (case c7 => k_is)
    (case k7 => k_is)
    (case a8 => k_is)
    (case l8 => k_is)
    (case c8 => k_is)
    (case k8 => k_is)
    (case a9 => k_is)
    (case i9 => k_is)
    (case l9 => k_is)
    (case c9 => k_is)
    (case k9 => k_is)
    (case a10 => k_is)
    (case l10 => k_is)
    (case c10 => k_is)
    (case k10 => k_is)
    (case a11 => k_is)
    (case l11 => k_is)
    (case c11 => k_is)
    (case k11 => k_is)
    (case a12 => k_is)
    (case l12 => k_is)
    (case c12 => k_is)
    (case k12 => k_is)
    (case a13 => k_is)
    (case l13 => k_is)
    (case c13 => k_is)
    (case k13 => k_is)
    (case a14 => k_is)
    (case l14 => k_is)
    (case c14 => k_is)
    (case k14 => k_is)
    (case a15 => k_is)
    (case l15 => k_is)
    (case c15 => k_is)
    (case k15 => k_is)
    (case a16 => k_is)
    (case l16 => k_is)
    (case c16 => k_is)
    (case k16 => k_is)
    (case a17 => k_is)
    (case l17 => k_is)
    (case c17 => k_is)
    (case k17 => k_is)
    (case a18 => k_is)
    (case l18 => k_is)
    (case c18 => k_is)
    (case k18 => k_is)
    (case a19 => k_is)
    (case i19 => k_is)
    (case l19 => k_is)
    (case c19 => k_is)
    (case k19 => k_is)
    (case a20 => k_is)
    (case i20 => k_is)
    (case l20 => k_is)
    (case c20 => k_is)
    (case k20 => k_is)
    (case a21 => k_is)
    (case i21 => k_is)
    (case l21 => k_is)
    (case c21 => k_is)
    (case k21 => k_is)
    (case a22 => k_is)
    (case i22 => k_is)
    (case l22 => k_is)
    (case c22 => k_is)
    (case k22 => k_is)
    (case a23 => k_is)
    (case i23 => k_is)
    (case l23 => k_is)
    (case c23 => k_is)
    (case k23 => k_is)
    (case a24 => k_is)
    (case i24 => k_is)
    (case l24 => k_is)
    (case c24 => k_is)
    (case k24 => k_is)
    (case a25 => k_is)
    (case i25 => k_is)
    (case l25 => k_is)
    (case c25 => k_is)
    (case k25 => k_is)
    (case a26 => k_is)
    (case i26 => k_is)
    (case l26 => k_is)
    (case c26 => k_is)
    (case k26 => k_is)
    (case a27 => k_is)
    (case i27 => k_is)
    (case l27 => k_is)
    (case c27 => k_is)
    (case k27 => k_is)
    (case a28 => k_is)
    (case i28 => k_is)
    (case l28 => k_is)
    (case c28 => k_is)
    (case k28 => k_is)
    (case a29 => k_is)
    (case i29 => k_is)
    (case l29 => k_is)
    (case c29 => k_is)
    (case k29 => k_is)
    (case a30 => k_is)
    (case l30 => k_is)
    (case c30 => k_is)
    (case k30 => k_is)
    (case pgCT => k_is)
    (case hdCT => k_is)
    (case poCT => k_is)
    (case saCT => k_is)
    (case mkCT => k_is)
    (case kcCT => k_is)
    (case pgCW => k_is)
    (case hdCW => k_is)
    (case poCW => k_is)
    (case saCW => k_is)
    (case mkCW => k_is)
    (case kcCW => k_is)
    (case nplace => k_is)
    (case nlow => k_is)
    (case nhigh => k_is)
    (case ntrees => k_is)
    (case npoints => k_is)
    (case blen => k_is)
    (case brange => k_is)
    (case breversed => k_is)
    (case benumerate => k_is)
    (case bmin => k_is)
    (case bmax => k_is)
    (case bsum => k_is)
    (case bsorted => k_is)
    (case e0 => k_is)
    (case e1 => k_is)
    (case e2 => k_is)
    (case e3 => k_is)
    (case e4 => k_is)
    (case e5 => k_is)
    (case e6 => k_is)
    (case e7 => k_is)
    (case e8 => k_is)
    (case e9 => k_is)
    (case e10 => k_is)
    (case e11 => k_is)
    (case e12 => k_is)
    (case e13 => k_is)
    (case e14 => k_is)
    (case e15 => k_is)
    (case aW => k_is)
    (case lW => k_is)
  case S =>
    intro K H xs a hO hwi hask hx
    cases hx with
    | cons h1 h2 =>
      cases h2
      cases h1 with
      | lst hs ha =>
        have e := L2.ints_dw a.1 _ ha
        subst e
        have q : ((Codec.inLen 0 400 a.1 && a.1.all (Codec.inInt 0 4294967295)) && true) = true := hwi
        rw [Bool.and_eq_true, Bool.and_eq_true] at q
        exact ⟨_, a.1, rfl, hs, (Codec.inNat_iff.mp q.1.1).2, hask, fun H' p hp => .lst (L2.SqL.of hp) (L2.dw_ints _)⟩
