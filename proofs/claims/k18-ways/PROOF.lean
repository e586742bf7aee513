import PyProof.Rows.All
import Wide.All
import OpenK.AllK
import Wide.FinOn
import KE.KStateDown
import HandS.ForMost
import HandS.ForExc
import HandS.More
import HandS.Defaults
import HandS.SortKw
import HandS.IsInst
import HandS.Style
import HandS.Head0
import HandS.Head1
import HandS.Head2
import HandS.HeadEnd
import HandS.HeadHook1
import HandS.HeadHook2
import PySem.Challenge.RW_cornerpiles_k18_whole_ways_that_never_to
set_option Elab.async false
set_option linter.all false
set_option maxRecDepth 100000
set_option maxHeartbeats 4000000
namespace CPM
/-! ### lists of heights: rows, piles -/
def RowOk (b c : Nat) (row : List Int) : Prop := row.length = b ∧ (∀ x ∈ row, 0 ≤ x ∧ x ≤ (c : Int)) ∧ row.Pairwise (fun x y => y ≤ x)
def Below (u l : List Int) : Prop := ∀ (j : Nat) (x y : Int), u[j]? = some x → l[j]? = some y → y ≤ x
def PileOk (a b c : Nat) (P : List (List Int)) : Prop := P.length = a ∧ (∀ row ∈ P, RowOk b c row) ∧ ∀ (i : Nat) (u l : List Int), P[i]? = some u → P[i + 1]? = some l → Below u l
/-- how many of a list are above k -/
def cnt (l : List Int) (k : Int) : Int := ((l.filter fun x => decide (x > k)).length : Int)
def stairsL (c : Nat) (P : List (List Int)) : List (List Int) := (List.range c).map fun k : Nat => P.map fun row => cnt row (k : Int)
def colL (S : List (List Int)) (i : Nat) : List Int := S.map fun one => one.getD i 0
def pileL (a b : Nat) (S : List (List Int)) : List (List Int) := (List.range a).map fun i : Nat => (List.range b).map fun j : Nat => cnt (colL S i) (j : Int)

theorem cnt_nonneg (l : List Int) (k : Int) : 0 ≤ cnt l k := Int.natCast_nonneg _
theorem cnt_le (l : List Int) (k : Int) : cnt l k ≤ (l.length : Int) := by
  unfold cnt
  exact_mod_cast List.length_filter_le _ _
theorem cnt_nil (k : Int) : cnt [] k = 0 := rfl
theorem cnt_cons (x : Int) (l : List Int) (k : Int) : cnt (x :: l) k = (if x > k then 1 else 0) + cnt l k := by
  unfold cnt
  rw [List.filter_cons]
  by_cases h : x > k
  · simp [h]; omega
  · simp [h]
/-- a list that never rises: the j-th is above k just where more than j are -/
theorem cnt_gt : ∀ {l : List Int} {k : Int} {j : Nat} {x : Int}, l.Pairwise (fun x y => y ≤ x) → l[j]? = some x → ((j : Int) < cnt l k ↔ k < x)
  | [], _, _, _, _, h => by simp at h
  | y :: r, k, 0, x, hp, h => by
    have e : y = x := by simpa using h
    subst e
    have h0 := cnt_nonneg r k
    rw [cnt_cons]
    obtain ⟨h1, h2⟩ := List.pairwise_cons.mp hp
    by_cases hk : y > k
    · simp only [if_pos hk]; omega
    · have hz : cnt r k = 0 := by
        unfold cnt
        have : r.filter (fun x => decide (x > k)) = [] := by
          rw [List.filter_eq_nil_iff]
          intro z hz
          have := h1 z hz
          simp; omega
        rw [this]; rfl
      simp only [if_neg hk, hz]; omega
  | y :: r, k, j + 1, x, hp, h => by
    obtain ⟨h1, h2⟩ := List.pairwise_cons.mp hp
    have h' : r[j]? = some x := by simpa using h
    have ih := cnt_gt (k := k) h2 h'
    rw [cnt_cons]
    by_cases hk : y > k
    · simp only [if_pos hk]
      omega
    · have hz : cnt r k = 0 := by
        unfold cnt
        have : r.filter (fun x => decide (x > k)) = [] := by
          rw [List.filter_eq_nil_iff]
          intro z hz
          have := h1 z hz
          simp; omega
        rw [this]; rfl
      have := h1 x (List.mem_of_getElem? h')
      simp only [if_neg hk, hz]; omega
/-- how many of 0, .., c - 1 are below v -/
theorem cnt_range_aux (v : Int) (h0 : 0 ≤ v) : ∀ (c : Nat), (((List.range c).filter fun k : Nat => decide ((k : Int) < v)).length : Int) = if v ≤ (c : Int) then v else (c : Int)
  | 0 => by
    by_cases h : v ≤ ((0 : Nat) : Int)
    · simp; omega
    · simp; omega
  | c + 1 => by
    rw [List.range_succ, List.filter_append, List.length_append, Int.natCast_add, cnt_range_aux v h0 c]
    by_cases h : (c : Int) < v
    · simp [List.filter_cons, h]
      split <;> split <;> omega
    · simp [List.filter_cons, h]
      split <;> split <;> omega
theorem cnt_map_range (f : Nat → Int) (j v : Int) (c : Nat) (h0 : 0 ≤ v) (hc : v ≤ (c : Int)) (hf : ∀ k, k < c → (j < f k ↔ (k : Int) < v)) : cnt ((List.range c).map f) j = v := by
  have e := cnt_range_aux v h0 c
  rw [if_pos hc] at e
  unfold cnt
  rw [List.filter_map, List.length_map, ← e]
  congr 2
  apply List.filter_congr
  intro k hk
  have := hf k (List.mem_range.mp hk)
  simp only [Function.comp]
  exact decide_eq_decide.mpr this
theorem cnt_mono_k (l : List Int) {k k' : Int} (h : k ≤ k') : cnt l k' ≤ cnt l k := by
  induction l with
  | nil => simp [cnt_nil]
  | cons x r ih =>
    rw [cnt_cons, cnt_cons]
    by_cases h1 : x > k'
    · have h2 : x > k := by omega
      simp only [if_pos h1, if_pos h2]; omega
    · simp only [if_neg h1]
      split <;> omega
theorem cnt_mono : ∀ {u l : List Int} (k : Int), u.length = l.length → Below u l → cnt l k ≤ cnt u k
  | [], [], _, _, _ => Int.le_refl _
  | [], _ :: _, _, h, _ => by simp at h
  | _ :: _, [], _, h, _ => by simp at h
  | x :: u, y :: l, k, h, hb => by
    have h1 : y ≤ x := hb 0 x y rfl rfl
    have ih := cnt_mono k (u := u) (l := l) (by simpa using h) fun j a b e1 e2 => hb (j + 1) a b (by simpa using e1) (by simpa using e2)
    rw [cnt_cons, cnt_cons]
    by_cases hk : y > k
    · have : x > k := by omega
      simp only [if_pos hk, if_pos this]; omega
    · simp only [if_neg hk]
      split <;> omega
theorem pairwise_range_map (f : Nat → Int) (c : Nat) (hf : ∀ i j, i < j → j < c → f j ≤ f i) : ((List.range c).map f).Pairwise (fun x y => y ≤ x) := by
  rw [List.pairwise_map]
  refine List.Pairwise.imp_of_mem ?_ List.pairwise_lt_range
  intro i j hi hj hij
  exact hf i j hij (List.mem_range.mp hj)
theorem get_mapRange {α : Type} (f : Nat → α) (c i : Nat) (x : α) (h : ((List.range c).map f)[i]? = some x) : i < c ∧ x = f i := by
  rw [List.getElem?_map] at h
  by_cases hi : i < c
  · rw [List.getElem?_range hi] at h
    exact ⟨hi, (Option.some.inj h).symm⟩
  · rw [List.getElem?_eq_none (by simpa using hi)] at h
    cases h
/-- rows of a pile never rise downwards -/
theorem pile_below {a b c : Nat} {P : List (List Int)} (h : PileOk a b c P) : ∀ (d i : Nat) (u l : List Int), P[i]? = some u → P[i + d]? = some l → Below u l
  | 0, i, u, l, h1, h2 => by
    have : u = l := by rw [Nat.add_zero, h1] at h2; exact Option.some.inj h2
    subst this
    intro j x y e1 e2
    rw [e1] at e2; cases e2; exact Int.le_refl _
  | d + 1, i, u, l, h1, h2 => by
    have hl : i + (d + 1) < P.length := (List.getElem?_eq_some_iff.mp h2).1
    have hm : P[i + d]? = some P[i + d] := List.getElem?_eq_getElem (by omega)
    have b1 := pile_below h d i u _ h1 hm
    have b2 := h.2.2 (i + d) _ l hm h2
    intro j x y e1 e2
    have r1 := (h.2.1 _ (List.mem_of_getElem? h1)).1
    have r2 := (h.2.1 _ (List.mem_of_getElem? hm)).1
    have hj : j < u.length := (List.getElem?_eq_some_iff.mp e1).1
    have e3 : (P[i + d])[j]? = some ((P[i + d])[j]'(by omega)) := List.getElem?_eq_getElem (by omega)
    exact Int.le_trans (b2 j _ y e3 e2) (b1 j x _ e1 e3)
/-- the staircases of a pile are a pile stood on its side -/
theorem stairs_ok {a b c : Nat} {P : List (List Int)} (h : PileOk a b c P) : PileOk c a b (stairsL c P) := by
  refine ⟨by simp [stairsL], fun row hr => ?_, fun k u l hu hl => ?_⟩
  · obtain ⟨k, hk, rfl⟩ := List.mem_map.mp hr
    refine ⟨by rw [List.length_map]; exact h.1, fun x hx => ?_, ?_⟩
    · obtain ⟨r, hr, rfl⟩ := List.mem_map.mp hx
      refine ⟨cnt_nonneg _ _, ?_⟩
      have := cnt_le r (k : Int)
      rw [(h.2.1 r hr).1] at this
      exact this
    · rw [List.pairwise_map, List.pairwise_iff_getElem]
      intro i j hi hj hij
      have e1 : P[i]? = some P[i] := List.getElem?_eq_getElem hi
      have e2 : P[i + (j - i)]? = some P[j] := by
        rw [show i + (j - i) = j by omega]; exact List.getElem?_eq_getElem hj
      have := pile_below h (j - i) i _ _ e1 e2
      exact cnt_mono _ (by rw [(h.2.1 _ (List.getElem_mem hi)).1, (h.2.1 _ (List.getElem_mem hj)).1]) this
  · obtain ⟨hk, rfl⟩ := get_mapRange _ _ _ _ hu
    obtain ⟨hk1, rfl⟩ := get_mapRange _ _ _ _ hl
    intro j x y e1 e2
    rw [List.getElem?_map] at e1 e2
    cases e : P[j]? with
    | none => rw [e] at e1; cases e1
    | some r =>
      rw [e] at e1 e2
      cases e1; cases e2
      exact cnt_mono_k r (by omega)
theorem colL_get (S : List (List Int)) (i k : Nat) (one : List Int) (h : S[k]? = some one) : (colL S i)[k]? = some (one.getD i 0) := by
  unfold colL
  rw [List.getElem?_map, h]; rfl
theorem col_pair {a b c : Nat} {S : List (List Int)} (h : PileOk c a b S) (i : Nat) (hi : i < a) : (colL S i).Pairwise (fun x y => y ≤ x) := by
  unfold colL
  rw [List.pairwise_map, List.pairwise_iff_getElem]
  intro k k' hk hk' hlt
  have e1 : S[k]? = some S[k] := List.getElem?_eq_getElem hk
  have e2 : S[k + (k' - k)]? = some S[k'] := by
    rw [show k + (k' - k) = k' by omega]; exact List.getElem?_eq_getElem hk'
  have l1 := (h.2.1 _ (List.getElem_mem hk)).1
  have l2 := (h.2.1 _ (List.getElem_mem hk')).1
  have := pile_below h (k' - k) k _ _ e1 e2 i (S[k].getD i 0) (S[k'].getD i 0)
  apply this
  · rw [List.getD_eq_getElem?_getD, List.getElem?_eq_getElem (by omega)]; rfl
  · rw [List.getD_eq_getElem?_getD, List.getElem?_eq_getElem (by omega)]; rfl
/-- the pile of a row of staircases is a pile -/
theorem pile_ok {a b c : Nat} {S : List (List Int)} (h : PileOk c a b S) : PileOk a b c (pileL a b S) := by
  refine ⟨by simp [pileL], fun row hr => ?_, fun i u l hu hl => ?_⟩
  · obtain ⟨i, hi, rfl⟩ := List.mem_map.mp hr
    refine ⟨by simp, fun x hx => ?_, ?_⟩
    · obtain ⟨j, hj, rfl⟩ := List.mem_map.mp hx
      refine ⟨cnt_nonneg _ _, ?_⟩
      have := cnt_le (colL S i) (j : Int)
      rw [show (colL S i).length = c by unfold colL; rw [List.length_map]; exact h.1] at this
      exact this
    · exact pairwise_range_map _ _ fun i' j' h1 h2 => cnt_mono_k _ (by omega)
  · obtain ⟨hi, rfl⟩ := get_mapRange _ _ _ _ hu
    obtain ⟨hi1, rfl⟩ := get_mapRange _ _ _ _ hl
    intro j x y e1 e2
    obtain ⟨hj, rfl⟩ := get_mapRange _ _ _ _ e1
    obtain ⟨_, rfl⟩ := get_mapRange _ _ _ _ e2
    refine cnt_mono _ (by simp [colL]) fun k p q ep eq => ?_
    unfold colL at ep eq
    rw [List.getElem?_map] at ep eq
    cases e : S[k]? with
    | none => rw [e] at ep; cases ep
    | some r =>
      rw [e] at ep eq
      cases ep; cases eq
      have R := h.2.1 r (List.mem_of_getElem? e)
      have hp := R.2.2
      rw [List.pairwise_iff_getElem] at hp
      have l1 := R.1
      have := hp i (i + 1) (by omega) (by omega) (by omega)
      show r.getD (i + 1) 0 ≤ r.getD i 0
      rw [List.getD_eq_getElem?_getD, List.getD_eq_getElem?_getD, List.getElem?_eq_getElem (show i < r.length by omega), List.getElem?_eq_getElem (show i + 1 < r.length by omega)]
      exact this
theorem map_range_eq {α : Type} (l : List α) (f : Nat → α) (n : Nat) (hn : l.length = n) (h : ∀ i x, l[i]? = some x → f i = x) : (List.range n).map f = l := by
  apply List.ext_getElem?
  intro i
  rw [List.getElem?_map]
  by_cases hi : i < n
  · rw [List.getElem?_range hi]
    have e : l[i]? = some (l[i]'(by omega)) := List.getElem?_eq_getElem (by omega)
    rw [e]
    show some (f i) = _
    rw [h i _ e]
  · rw [List.getElem?_eq_none (by simpa using hi), List.getElem?_eq_none (by omega)]; rfl
/-- their pile is it -/
theorem pile_stairs {a b c : Nat} {P : List (List Int)} (h : PileOk a b c P) : pileL a b (stairsL c P) = P := by
  unfold pileL
  refine map_range_eq P _ a h.1 fun i row hi => ?_
  have R := h.2.1 row (List.mem_of_getElem? hi)
  refine map_range_eq row _ b R.1 fun j x hj => ?_
  have hx := R.2.1 x (List.mem_of_getElem? hj)
  unfold colL stairsL
  rw [List.map_map]
  refine cnt_map_range _ _ _ _ hx.1 hx.2 fun k hk => ?_
  show (j : Int) < (P.map fun row => cnt row (k : Int)).getD i 0 ↔ _
  rw [List.getD_eq_getElem?_getD, List.getElem?_map, hi]
  exact cnt_gt R.2.2 hj
/-- .. and back -/
theorem stairs_pile {a b c : Nat} {S : List (List Int)} (h : PileOk c a b S) : stairsL c (pileL a b S) = S := by
  unfold stairsL
  refine map_range_eq S _ c h.1 fun k one hk => ?_
  have R := h.2.1 one (List.mem_of_getElem? hk)
  unfold pileL
  rw [List.map_map]
  refine map_range_eq one _ a R.1 fun i x hi => ?_
  have hx := R.2.1 x (List.mem_of_getElem? hi)
  have hia : i < a := by have := (List.getElem?_eq_some_iff.mp hi).1; have := R.1; omega
  refine cnt_map_range _ _ _ _ hx.1 hx.2 fun j hj => ?_
  have hc : (colL S i)[k]? = some x := by
    rw [colL_get S i k one hk, List.getD_eq_getElem?_getD, hi]; rfl
  exact cnt_gt (col_pair h i hia) hc
end CPM

namespace CPM
/-! ### ways: lists of signs, 114 is r, 100 is d -/
def rc (w : List Nat) : Nat := w.count 114
def marks : Int → List Nat → List Int
  | _, [] => []
  | m, c :: r => if c = 114 then marks (m + 1) r else m :: marks m r
def stair (w : List Nat) : List Int := (marks 0 w).reverse
def along : Int → Int → List Int → List Nat
  | ahead, cols, [] => List.replicate (cols - ahead).toNat 114
  | ahead, cols, m :: r => List.replicate (m - ahead).toNat 114 ++ 100 :: along m cols r
def wayL (b : Nat) (s : List Int) : List Nat := along 0 (b : Int) s.reverse
def WayOk (a b : Nat) (w : List Nat) : Prop := w.length = a + b ∧ w.count 100 = a ∧ w.count 114 = b
def ptAt (k : Nat) (w : List Nat) (t : Nat) : Int × Int := ((rc (w.take t) : Int) - (k : Int), (t : Int) - (rc (w.take t) : Int) + (k : Int))
def ptsK (k : Nat) (w : List Nat) : List (Int × Int) := (List.range (w.length + 1)).map (ptAt k w)
def ptsTo (ws : List (List Nat)) (i : Nat) : List (Int × Int) := (List.range i).flatMap fun k => ptsK k (ws.getD k [])
def allPts (ws : List (List Nat)) : List (Int × Int) := ptsTo ws ws.length

theorem rc_nil : rc [] = 0 := rfl
theorem rc_cons (c : Nat) (r : List Nat) : rc (c :: r) = (if c = 114 then 1 else 0) + rc r := by
  unfold rc
  rw [List.count_cons]
  by_cases h : c = 114
  · simp [h]; omega
  · simp [h]
theorem rc_take_le (w : List Nat) (t : Nat) : rc (w.take t) ≤ t := by
  unfold rc
  exact Nat.le_trans List.count_le_length (by rw [List.length_take]; exact Nat.min_le_left _ _)
theorem rc_take_succ (w : List Nat) (t : Nat) : rc (w.take (t + 1)) = rc (w.take t) ∨ rc (w.take (t + 1)) = rc (w.take t) + 1 := by
  by_cases h : t < w.length
  · rw [List.take_succ_eq_append_getElem h]
    unfold rc
    rw [List.count_append]
    by_cases e : w[t] = 114
    · right; simp [e]
    · left; simp [e]
  · left
    rw [List.take_of_length_le (by omega), List.take_of_length_le (by omega)]
theorem signs_two : ∀ {w : List Nat}, w.length = w.count 100 + w.count 114 → ∀ c ∈ w, c = 100 ∨ c = 114
  | [], _, c, hc => by cases hc
  | x :: r, h, c, hc => by
    have h1 : r.count 100 + r.count 114 ≤ r.length := by
      clear h hc
      induction r with
      | nil => simp
      | cons y s ih =>
        rw [List.count_cons, List.count_cons, List.length_cons]
        by_cases e1 : y = 100
        · subst e1; simp; omega
        · by_cases e2 : y = 114
          · subst e2; simp; omega
          · simp [e1, e2]; omega
    rw [List.count_cons, List.count_cons, List.length_cons] at h
    by_cases e1 : x = 100
    · subst e1
      simp at h
      rcases List.mem_cons.mp hc with rfl | hc
      · exact .inl rfl
      · exact signs_two (by omega) c hc
    · by_cases e2 : x = 114
      · subst e2
        simp at h
        rcases List.mem_cons.mp hc with rfl | hc
        · exact .inr rfl
        · exact signs_two (by omega) c hc
      · simp [e1, e2] at h; omega
theorem marks_len : ∀ (w : List Nat) (m : Int), (marks m w).length + rc w = w.length
  | [], _ => rfl
  | c :: r, m => by
    unfold marks
    rw [rc_cons, List.length_cons]
    by_cases h : c = 114
    · rw [if_pos h, if_pos h]
      have := marks_len r (m + 1)
      omega
    · rw [if_neg h, if_neg h]
      have := marks_len r m
      rw [List.length_cons]
      omega
theorem marks_bounds : ∀ (w : List Nat) (m : Int), ∀ x ∈ marks m w, m ≤ x ∧ x ≤ m + (rc w : Int)
  | [], _, x, h => by cases h
  | c :: r, m, x, h => by
    unfold marks at h
    rw [rc_cons]
    by_cases hc : c = 114
    · rw [if_pos hc] at h ⊢
      have := marks_bounds r (m + 1) x h
      omega
    · rw [if_neg hc] at h ⊢
      rcases List.mem_cons.mp h with rfl | h
      · omega
      · have := marks_bounds r m x h
        omega
theorem marks_rise : ∀ (w : List Nat) (m : Int), (marks m w).Pairwise (fun x y => x ≤ y)
  | [], _ => .nil
  | c :: r, m => by
    unfold marks
    by_cases hc : c = 114
    · rw [if_pos hc]; exact marks_rise r (m + 1)
    · rw [if_neg hc]
      exact .cons (fun y hy => (marks_bounds r m y hy).1) (marks_rise r m)
theorem stair_row {a b : Nat} {w : List Nat} (h : WayOk a b w) : RowOk a b (stair w) := by
  have hl := marks_len w 0
  have hr : rc w = b := h.2.2
  refine ⟨?_, fun x hx => ?_, ?_⟩
  · unfold stair
    rw [List.length_reverse]
    have := h.1
    omega
  · have := marks_bounds w 0 x (List.mem_reverse.mp hx)
    rw [hr] at this
    omega
  · unfold stair
    rw [List.pairwise_reverse]
    exact marks_rise w 0
/-- a way from its staircase -/
theorem along_marks : ∀ (w : List Nat) (ahead m cols : Int), (∀ c ∈ w, c = 100 ∨ c = 114) → ahead ≤ m → cols = m + (rc w : Int) → along ahead cols (marks m w) = List.replicate (m - ahead).toNat 114 ++ w
  | [], ahead, m, cols, _, h1, h2 => by
    rw [rc_nil] at h2
    show List.replicate (cols - ahead).toNat 114 = _
    rw [List.append_nil]
    congr 2; omega
  | c :: r, ahead, m, cols, hs, h1, h2 => by
    rw [rc_cons] at h2
    have hs' : ∀ c ∈ r, c = 100 ∨ c = 114 := fun x hx => hs x (List.mem_cons_of_mem _ hx)
    unfold marks
    by_cases hc : c = 114
    · rw [if_pos hc] at h2 ⊢
      rw [along_marks r ahead (m + 1) cols hs' (by omega) (by omega)]
      rw [show (m + 1 - ahead).toNat = (m - ahead).toNat + 1 by omega, List.replicate_succ', List.append_assoc, hc]
      rfl
    · rw [if_neg hc] at h2 ⊢
      have h100 : c = 100 := by
        rcases hs c List.mem_cons_self with e | e
        · exact e
        · exact absurd e hc
      unfold along
      rw [along_marks r m m cols hs' (Int.le_refl _) (by omega)]
      rw [show (m - m).toNat = 0 by omega, h100]
      rfl
theorem way_stair {a b : Nat} {w : List Nat} (h : WayOk a b w) : wayL b (stair w) = w := by
  unfold wayL stair
  rw [List.reverse_reverse]
  have hs := signs_two (w := w) (by rw [h.1, h.2.1, h.2.2])
  rw [along_marks w 0 0 b hs (Int.le_refl _) (by rw [show rc w = b from h.2.2]; omega)]
  rfl
theorem marks_rep : ∀ (n : Nat) (m : Int) (w : List Nat), marks m (List.replicate n 114 ++ w) = marks (m + n) w
  | 0, m, w => by
    simp
  | n + 1, m, w => by
    rw [List.replicate_succ]
    show (if 114 = 114 then marks (m + 1) (List.replicate n 114 ++ w) else _) = _
    rw [if_pos rfl, marks_rep n (m + 1) w, show m + 1 + (n : Int) = m + ((n + 1 : Nat) : Int) by omega]
/-- a staircase from its way -/
theorem marks_along : ∀ (s : List Int) (ahead cols : Int), (∀ x ∈ s, ahead ≤ x ∧ x ≤ cols) → s.Pairwise (fun x y => x ≤ y) → marks ahead (along ahead cols s) = s
  | [], ahead, cols, _, _ => by
    unfold along
    have := marks_rep (cols - ahead).toNat ahead []
    rw [List.append_nil] at this
    rw [this]; rfl
  | m :: r, ahead, cols, hb, hp => by
    obtain ⟨h1, h2⟩ := List.pairwise_cons.mp hp
    have hm := hb m List.mem_cons_self
    unfold along
    rw [marks_rep]
    have e : ahead + ((m - ahead).toNat : Int) = m := by omega
    rw [e]
    show marks m (100 :: along m cols r) = m :: r
    unfold marks
    rw [if_neg (by decide), marks_along r m cols (fun x hx => ⟨h1 x hx, (hb x (List.mem_cons_of_mem _ hx)).2⟩) h2]
theorem along_counts : ∀ (s : List Int) (ahead cols : Int), ahead ≤ cols → (∀ x ∈ s, ahead ≤ x ∧ x ≤ cols) → s.Pairwise (fun x y => x ≤ y) →
    (along ahead cols s).count 100 = s.length ∧ ((along ahead cols s).count 114 : Int) = cols - ahead ∧ ((along ahead cols s).length : Int) = s.length + (cols - ahead)
  | [], ahead, cols, h0, _, _ => by
    unfold along
    rw [List.count_replicate, List.count_replicate, List.length_replicate]
    refine ⟨rfl, ?_, ?_⟩
    · simp; omega
    · simp; omega
  | m :: r, ahead, cols, h0, hb, hp => by
    obtain ⟨h1, h2⟩ := List.pairwise_cons.mp hp
    have hm := hb m List.mem_cons_self
    obtain ⟨k1, k2, k3⟩ := along_counts r m cols hm.2 (fun x hx => ⟨h1 x hx, (hb x (List.mem_cons_of_mem _ hx)).2⟩) h2
    unfold along
    rw [List.count_append, List.count_append, List.length_append, List.count_replicate, List.count_replicate, List.length_replicate, List.count_cons, List.count_cons, List.length_cons, List.length_cons]
    refine ⟨?_, ?_, ?_⟩
    · simp; omega
    · simp; omega
    · omega
theorem rev_row {a b : Nat} {s : List Int} (h : RowOk a b s) : (∀ x ∈ s.reverse, 0 ≤ x ∧ x ≤ (b : Int)) ∧ s.reverse.Pairwise (fun x y => x ≤ y) :=
  ⟨fun x hx => h.2.1 x (List.mem_reverse.mp hx), by rw [List.pairwise_reverse]; exact h.2.2⟩
theorem stair_way {a b : Nat} {s : List Int} (h : RowOk a b s) : stair (wayL b s) = s := by
  obtain ⟨h1, h2⟩ := rev_row h
  unfold stair wayL
  rw [marks_along _ _ _ h1 h2, List.reverse_reverse]
theorem way_ok {a b : Nat} {s : List Int} (h : RowOk a b s) : WayOk a b (wayL b s) := by
  obtain ⟨h1, h2⟩ := rev_row h
  obtain ⟨k1, k2, k3⟩ := along_counts s.reverse 0 b (by omega) h1 h2
  have hl : s.reverse.length = a := by rw [List.length_reverse]; exact h.1
  unfold wayL
  refine ⟨by omega, by omega, by omega⟩
/-! ### where the marks lie -/
theorem mark_at : ∀ (w : List Nat) (x y : Int) (m : Nat), (marks x w)[m]? = some y → ∃ t, t ≤ w.length ∧ y = x + (rc (w.take t) : Int) ∧ t = m + rc (w.take t)
  | [], _, _, _, h => by simp [marks] at h
  | c :: r, x, y, m, h => by
    unfold marks at h
    by_cases hc : c = 114
    · rw [if_pos hc] at h
      obtain ⟨t, h1, h2, h3⟩ := mark_at r (x + 1) y m h
      refine ⟨t + 1, by simp; omega, ?_, ?_⟩
      · rw [List.take_succ_cons, rc_cons, if_pos hc]; omega
      · rw [List.take_succ_cons, rc_cons, if_pos hc]; omega
    · rw [if_neg hc] at h
      cases m with
      | zero =>
        have e : x = y := by simpa using h
        refine ⟨0, Nat.zero_le _, ?_, ?_⟩
        · rw [List.take_zero, rc_nil, e]; simp
        · rw [List.take_zero, rc_nil]
      | succ m =>
        obtain ⟨t, h1, h2, h3⟩ := mark_at r x y m (by simpa using h)
        refine ⟨t + 1, by simp; omega, ?_, ?_⟩
        · rw [List.take_succ_cons, rc_cons, if_neg hc]; omega
        · rw [List.take_succ_cons, rc_cons, if_neg hc]; omega
theorem mark_ge : ∀ (w : List Nat) (x y : Int) (m t : Nat), (marks x w)[m]? = some y → t ≤ m + rc (w.take t) → x + (rc (w.take t) : Int) ≤ y
  | [], _, _, _, _, h, _ => by simp [marks] at h
  | c :: r, x, y, m, 0, h, _ => by
    have := (marks_bounds (c :: r) x y (List.mem_of_getElem? h)).1
    rw [List.take_zero, rc_nil]; omega
  | c :: r, x, y, m, t + 1, h, ht => by
    rw [List.take_succ_cons, rc_cons] at ht ⊢
    unfold marks at h
    by_cases hc : c = 114
    · rw [if_pos hc] at h ht ⊢
      have := mark_ge r (x + 1) y m t h (by omega)
      omega
    · rw [if_neg hc] at h ht ⊢
      cases m with
      | zero =>
        have e : x = y := by simpa using h
        have := rc_take_le r t
        omega
      | succ m =>
        have := mark_ge r x y m t (by simpa using h) (by omega)
        omega
theorem mark_le : ∀ (w : List Nat) (x y : Int) (m t : Nat), (marks x w)[m]? = some y → m + rc (w.take t) < t → t ≤ w.length → y ≤ x + (rc (w.take t) : Int)
  | [], _, _, _, _, h, _, _ => by simp [marks] at h
  | c :: r, x, y, m, 0, h, ht, _ => by omega
  | c :: r, x, y, m, t + 1, h, ht, hl => by
    rw [List.take_succ_cons, rc_cons] at ht ⊢
    have hl' : t ≤ r.length := by simpa using hl
    unfold marks at h
    by_cases hc : c = 114
    · rw [if_pos hc] at h ht ⊢
      have := mark_le r (x + 1) y m t h (by omega) hl'
      omega
    · rw [if_neg hc] at h ht ⊢
      cases m with
      | zero =>
        have e : x = y := by simpa using h
        omega
      | succ m =>
        have := mark_le r x y m t (by simpa using h) (by omega) hl'
        omega
theorem below_reverse {u l : List Int} (hl : u.length = l.length) (h : Below u l) : Below u.reverse l.reverse := by
  intro j x y e1 e2
  have h1 : j < u.length := by simpa using (List.getElem?_eq_some_iff.mp e1).1
  rw [List.getElem?_reverse h1] at e1
  rw [List.getElem?_reverse (by omega)] at e2
  rw [← hl] at e2
  exact h _ x y e1 e2
/-- one way lies before the other just where the staircases lie so -/
theorem dom_iff {a b : Nat} {u v : List Nat} (hu : WayOk a b u) (hv : WayOk a b v) : (∀ t, t ≤ a + b → rc (v.take t) ≤ rc (u.take t)) ↔ Below (stair u) (stair v) := by
  have lu := marks_len u 0
  have lv := marks_len v 0
  have ru : rc u = b := hu.2.2
  have rv : rc v = b := hv.2.2
  have nu := hu.1
  have nv := hv.1
  have key : (∀ t, t ≤ a + b → rc (v.take t) ≤ rc (u.take t)) ↔ Below (marks 0 u) (marks 0 v) := by
    constructor
    · intro h m x y e1 e2
      obtain ⟨t, t1, t2, t3⟩ := mark_at v 0 y m e2
      have := h t (by omega)
      have := mark_ge u 0 x m t e1 (by omega)
      omega
    · intro h t ht
      refine Nat.le_of_not_lt fun hlt => ?_
      have q1 := rc_take_le u t
      have q2 := rc_take_le v t
      have q3 : t - rc (u.take t) ≤ (marks 0 u).length := by
        have e : rc (u.take t) + rc (u.drop t) = rc u := by
          unfold rc
          rw [← List.count_append, List.take_append_drop]
        have : rc (u.drop t) ≤ (u.drop t).length := List.count_le_length
        rw [List.length_drop] at this
        omega
      generalize hm : t - rc (v.take t) = m
      have hmu : m < (marks 0 u).length := by omega
      have hmv : m < (marks 0 v).length := by omega
      have e1 : (marks 0 u)[m]? = some (marks 0 u)[m] := List.getElem?_eq_getElem hmu
      have e2 : (marks 0 v)[m]? = some (marks 0 v)[m] := List.getElem?_eq_getElem hmv
      have k1 := mark_le u 0 _ m t e1 (by omega) (by omega)
      have k2 := mark_ge v 0 _ m t e2 (by omega)
      have k3 := h m _ _ e1 e2
      omega
  rw [key]
  constructor
  · exact fun h => below_reverse (by omega) h
  · intro h
    have := below_reverse (u := stair u) (l := stair v) (by unfold stair; rw [List.length_reverse, List.length_reverse]; omega) h
    unfold stair at this
    rw [List.reverse_reverse, List.reverse_reverse] at this
    exact this
/-- what begins above nought, never falls by more than one and is never nought stays above -/
theorem stays {D : Nat → Int} (h0 : 0 < D 0) (hs : ∀ t, D t - 1 ≤ D (t + 1)) : ∀ n, (∀ t, t ≤ n → D t ≠ 0) → 0 < D n
  | 0, _ => h0
  | n + 1, hz => by
    have := stays h0 hs n fun t ht => hz t (by omega)
    have := hs n
    have := hz (n + 1) (Nat.le_refl _)
    omega
theorem ptAt_eq {k l t t' : Nat} {u v : List Nat} : ptAt k u t = ptAt l v t' ↔ t = t' ∧ (rc (u.take t) : Int) - k = (rc (v.take t') : Int) - l := by
  unfold ptAt
  rw [Prod.mk.injEq]
  omega
theorem ptsK_nodup (k : Nat) (w : List Nat) : (ptsK k w).Nodup := by
  unfold ptsK List.Nodup
  rw [List.pairwise_map]
  refine List.Pairwise.imp ?_ List.pairwise_lt_range
  intro i j hij he
  have := (ptAt_eq.mp he).1
  omega
theorem touch_iff {a b c : Nat} {ws : List (List Nat)} (hl : ws.length = c) (hw : ∀ w ∈ ws, WayOk a b w) : (allPts ws).Nodup ↔ PileOk c a b (ws.map stair) := by
  have hgd : ∀ k, k < c → ws[k]? = some (ws.getD k []) := fun k hk => by
    rw [List.getD_eq_getElem?_getD, List.getElem?_eq_getElem (by omega)]; rfl
  have hok : ∀ k, k < c → WayOk a b (ws.getD k []) := fun k hk => hw _ (List.mem_of_getElem? (hgd k hk))
  have e1 : (allPts ws).Nodup ↔ ∀ k l, k < l → l < c → ∀ t, t ≤ a + b → (rc ((ws.getD k []).take t) : Int) - k ≠ (rc ((ws.getD l []).take t) : Int) - l := by
    unfold allPts ptsTo List.Nodup
    rw [List.pairwise_flatMap]
    constructor
    · rintro ⟨_, h⟩ k l hkl hlc t ht he
      rw [List.pairwise_iff_getElem] at h
      have := h k l (by simp; omega) (by simp; omega) hkl (ptAt k (ws.getD k []) t) ?_ (ptAt l (ws.getD l []) t) ?_
      · exact this (ptAt_eq.mpr ⟨rfl, he⟩)
      · rw [List.getElem_range]
        exact List.mem_map.mpr ⟨t, List.mem_range.mpr (by rw [(hok k (by omega)).1]; omega), rfl⟩
      · rw [List.getElem_range]
        exact List.mem_map.mpr ⟨t, List.mem_range.mpr (by rw [(hok l (by omega)).1]; omega), rfl⟩
    · intro h
      refine ⟨fun k _ => ptsK_nodup _ _, ?_⟩
      refine List.Pairwise.imp_of_mem ?_ List.pairwise_lt_range
      intro k l hk hlm hkl x hx y hy he
      have hlc : l < c := by have := List.mem_range.mp hlm; omega
      obtain ⟨t, ht, rfl⟩ := List.mem_map.mp hx
      obtain ⟨t', ht', rfl⟩ := List.mem_map.mp hy
      obtain ⟨rfl, q⟩ := ptAt_eq.mp he
      have := List.mem_range.mp ht
      rw [(hok k (by omega)).1] at this
      exact h k l hkl hlc t (by omega) q
  have e2 : (∀ k l, k < l → l < c → ∀ t, t ≤ a + b → (rc ((ws.getD k []).take t) : Int) - k ≠ (rc ((ws.getD l []).take t) : Int) - l) ↔
      ∀ k, k + 1 < c → ∀ t, t ≤ a + b → rc ((ws.getD (k + 1) []).take t) ≤ rc ((ws.getD k []).take t) := by
    constructor
    · intro h k hk t ht
      have := stays (D := fun t => (rc ((ws.getD k []).take t) : Int) - (rc ((ws.getD (k + 1) []).take t) : Int) + 1) (by
          show (0 : Int) < (rc ((ws.getD k []).take 0) : Int) - (rc ((ws.getD (k + 1) []).take 0) : Int) + 1
          rw [List.take_zero, List.take_zero]; simp) (fun t => by
          show (rc ((ws.getD k []).take t) : Int) - (rc ((ws.getD (k + 1) []).take t) : Int) + 1 - 1 ≤ (rc ((ws.getD k []).take (t + 1)) : Int) - (rc ((ws.getD (k + 1) []).take (t + 1)) : Int) + 1
          rcases rc_take_succ (ws.getD k []) t with q | q <;> rcases rc_take_succ (ws.getD (k + 1) []) t with q' | q' <;> rw [q, q'] <;> omega) t (fun t' ht' => by
          show (rc ((ws.getD k []).take t') : Int) - (rc ((ws.getD (k + 1) []).take t') : Int) + 1 ≠ 0
          have := h k (k + 1) (by omega) hk t' (by omega)
          omega)
      have this : (0 : Int) < (rc ((ws.getD k []).take t) : Int) - (rc ((ws.getD (k + 1) []).take t) : Int) + 1 := this
      omega
    · intro h k l hkl hlc t ht
      have mono : ∀ d, k + d < c → rc ((ws.getD (k + d) []).take t) ≤ rc ((ws.getD k []).take t) := by
        intro d
        induction d with
        | zero => intro _; exact Nat.le_refl _
        | succ d ih => intro hd; exact Nat.le_trans (h (k + d) (by omega) t ht) (ih (by omega))
      have := mono (l - k) (by omega)
      rw [show k + (l - k) = l by omega] at this
      omega
  rw [e1, e2]
  constructor
  · intro h
    refine ⟨by rw [List.length_map, hl], fun row hr => ?_, fun k u l hu hlw => ?_⟩
    · obtain ⟨w, hwm, rfl⟩ := List.mem_map.mp hr
      exact stair_row (hw w hwm)
    · have hk : k + 1 < c := by
        have := (List.getElem?_eq_some_iff.mp hlw).1
        rw [List.length_map, hl] at this; exact this
      rw [List.getElem?_map, hgd k (by omega)] at hu
      rw [List.getElem?_map, hgd (k + 1) hk] at hlw
      cases hu; cases hlw
      exact (dom_iff (hok k (by omega)) (hok (k + 1) hk)).mp (h k hk)
  · intro h k hk
    refine (dom_iff (hok k (by omega)) (hok (k + 1) hk)).mpr (h.2.2 k _ _ ?_ ?_)
    · rw [List.getElem?_map, hgd k (by omega)]; rfl
    · rw [List.getElem?_map, hgd (k + 1) hk]; rfl
/-! ### the whole -/
def WaysOk (a b c : Nat) (ws : List (List Nat)) : Prop := ws.length = c ∧ ∀ w ∈ ws, WayOk a b w
def waysL (b c : Nat) (P : List (List Int)) : List (List Nat) := (stairsL c P).map (wayL b)
theorem ways_ok {a b c : Nat} {P : List (List Int)} (h : PileOk a b c P) : WaysOk a b c (waysL b c P) := by
  have hs := stairs_ok h
  refine ⟨by unfold waysL; rw [List.length_map]; exact hs.1, fun w hw => ?_⟩
  obtain ⟨s, hs', rfl⟩ := List.mem_map.mp hw
  exact way_ok (hs.2.1 s hs')
theorem stairs_ways {a b c : Nat} {P : List (List Int)} (h : PileOk a b c P) : (waysL b c P).map stair = stairsL c P := by
  have hs := stairs_ok h
  unfold waysL
  rw [List.map_map]
  conv => rhs; rw [← List.map_id (stairsL c P)]
  exact List.map_congr_left fun s hm => stair_way (hs.2.1 s hm)
theorem ways_back {a b c : Nat} {ws : List (List Nat)} (hw : WaysOk a b c ws) (h : PileOk c a b (ws.map stair)) : waysL b c (pileL a b (ws.map stair)) = ws := by
  unfold waysL
  rw [stairs_pile h, List.map_map]
  conv => rhs; rw [← List.map_id ws]
  exact List.map_congr_left fun w hm => way_stair (hw.2 w hm)
theorem pile_back {a b c : Nat} {P : List (List Int)} (h : PileOk a b c P) : pileL a b ((waysL b c P).map stair) = P := by
  rw [stairs_ways h, pile_stairs h]
end CPM

namespace CP
open PySem PySem.Spec PyProof.Rows L2 TL CPM
/-! ### the text by places -/
def top (i : Nat) : Stmt := PySem.Challenge.pw_cornerpiles_k18_whole_ways_that_never_to.main.body.getD i (.Pass ⟨0, 0, 0, 0⟩)
abbrev FnP (K : PySem.W.Frag) (x : Str) (st : Stmt) (f : Addr) (fd : FuncData) : Prop := FunD K x x (defArgs st) (defBody st) (defScope st) [] [] f fd
/-- a def of the text with its promise, as its callers use it -/
structure CalAt (P : Program) (w : World) (K : PySem.W.Frag) (mg : Str → Option Value) (base : Heap) (CX : CXT) (k : Nat) (x : Str) (ps : List Str) (sp : Sp) (f : Addr) (fd : FuncData) : Prop where
  ok : FnOk P w K mg base CX k f fd ps sp
  g : mg x = some (.ref f)
  kp : PySem.W.keepIn K (.ref f) = true
  b : Binds K fd ps []
def Cal (P : Program) (w : World) (K : PySem.W.Frag) (mg : Str → Option Value) (base : Heap) (CX : CXT) (k : Nat) (x : Str) (ps : List Str) (sp : Sp) : Prop := ∃ f fd, CalAt P w K mg base CX k x ps sp f fd
/-- where a def stands -/
structure Dn (K : PySem.W.Frag) (mg : Str → Option Value) (x : Str) (st : Stmt) (ps : List Str) (f : Addr) (fd : FuncData) : Prop where
  F : FnP K x st f fd
  g : mg x = some (.ref f)
  b : Binds K fd ps []
/-! ### texts, heaps -/
abbrev S (w : List Nat) : Str := ⟨w.toArray⟩
theorem S_len (w : List Nat) : (S w).length = w.length := by simp [S, Str.length]
theorem S_app (a b : List Nat) : S a ++ S b = S (a ++ b) := ext_tl (by rw [tl_append])
theorem S_inj {a b : List Nat} (h : S a = S b) : a = b := by
  have : tl (S a) = tl (S b) := by rw [h]
  exact this
theorem same_upd {H : Hp} {p : Addr} {o : HO} (h : H p = none) : Same H (upd H p o) := fun b x e => by
  rw [upd_ne (ne_of_none e h)]
  exact e
/-- a change at p, which did not stand in H0 -/
theorem same_new {H0 H : Hp} {p : Addr} {o : HO} (s : Same H0 H) (h : H0 p = none) : Same H0 (upd H p o) := fun b x e => by
  rw [upd_ne (ne_of_none e h)]
  exact s _ _ e
structure Bx (H : Hp) (p : Addr) (a b c : Nat) : Prop where
  at_ : H p = some (.tup [.int (a : Int), .int (b : Int), .int (c : Int)])
  a1 : 1 ≤ a
  a6 : a ≤ 6
  b1 : 1 ≤ b
  b6 : b ≤ 6
  c1 : 1 ≤ c
  c6 : c ≤ 6
theorem Bx.same {H H' : Hp} {p : Addr} {a b c : Nat} (h : Bx H p a b c) (s : Same H H') : Bx H' p a b c := { h with at_ := s _ _ h.at_ }
def Ints (H : Hp) (p : Addr) (ns : List Int) : Prop := H p = some (.lst (ns.map V.int))
theorem Ints.same {H H' : Hp} {p : Addr} {ns : List Int} (h : Ints H p ns) (s : Same H H') : Ints H' p ns := s _ _ h
def RowsAt (H : Hp) (as : List Addr) (P : List (List Int)) : Prop := as.length = P.length ∧ ∀ (i : Nat) (a : Addr) (row : List Int), as[i]? = some a → P[i]? = some row → Ints H a row
theorem RowsAt.same {H H' : Hp} {as : List Addr} {P : List (List Int)} (h : RowsAt H as P) (s : Same H H') : RowsAt H' as P := ⟨h.1, fun i a row e1 e2 => (h.2 i a row e1 e2).same s⟩
theorem RowsAt.nil {H : Hp} : RowsAt H [] [] := ⟨rfl, fun i a row e => by simp at e⟩
theorem RowsAt.snoc {H : Hp} {as : List Addr} {P : List (List Int)} {a : Addr} {row : List Int} (h : RowsAt H as P) (ha : Ints H a row) : RowsAt H (as ++ [a]) (P ++ [row]) := by
  refine ⟨by rw [List.length_append, List.length_append, h.1]; rfl, fun i b r e1 e2 => ?_⟩
  by_cases hi : i < as.length
  · rw [List.getElem?_append_left hi] at e1
    rw [List.getElem?_append_left (by rw [← h.1]; exact hi)] at e2
    exact h.2 i b r e1 e2
  · rw [List.getElem?_append_right (by omega)] at e1
    rw [List.getElem?_append_right (by rw [← h.1]; omega)] at e2
    rw [← h.1] at e2
    cases hd : i - as.length with
    | zero =>
      rw [hd] at e1 e2
      simp at e1 e2
      subst e1 e2
      exact ha
    | succ n =>
      rw [hd] at e1
      simp at e1
theorem RowsAt.get {H : Hp} {as : List Addr} {P : List (List Int)} (h : RowsAt H as P) {i : Nat} {v : V} (e : (as.map V.ref)[i]? = some v) : ∃ a row, v = .ref a ∧ as[i]? = some a ∧ P[i]? = some row ∧ Ints H a row := by
  rw [List.getElem?_map] at e
  cases q : as[i]? with
  | none => rw [q] at e; cases e
  | some a =>
    rw [q] at e
    have hi : i < P.length := by rw [← h.1]; exact (List.getElem?_eq_some_iff.mp q).1
    have e2 : P[i]? = some P[i] := List.getElem?_eq_getElem hi
    exact ⟨a, P[i], (Option.some.inj e).symm, rfl, e2, h.2 i a _ q e2⟩
def Rows (H : Hp) (p : Addr) (P : List (List Int)) : Prop := ∃ as : List Addr, H p = some (.lst (as.map V.ref)) ∧ RowsAt H as P
theorem Rows.same {H H' : Hp} {p : Addr} {P : List (List Int)} (h : Rows H p P) (s : Same H H') : Rows H' p P := by
  obtain ⟨as, e, r⟩ := h
  exact ⟨as, s _ _ e, r.same s⟩
def vT (w : List Nat) : V := .str (S w)
def Txts (H : Hp) (p : Addr) (ws : List (List Nat)) : Prop := H p = some (.lst (ws.map vT))
theorem Txts.same {H H' : Hp} {p : Addr} {ws : List (List Nat)} (h : Txts H p ws) (s : Same H H') : Txts H' p ws := s _ _ h
theorem take_more {α : Type} {l : List α} {i : Nat} {x : α} (h : l[i]? = some x) : l.take (i + 1) = l.take i ++ [x] := by
  rw [List.take_add_one, h]; rfl
theorem sz {n : Nat} (h : n ≤ 1000) : n < sizeLine := small1000 h
theorem szl {n : Nat} (h : n ≤ 1000) : n ≤ sizeLine := Nat.le_of_lt (small1000 h)
theorem ifF {A B : Prop} {k : Bool} (hk : k = false) (h : B) : if k = true then A else B := by
  rw [hk]; exact iteF h
theorem ifT {A B : Prop} {k : Bool} (hk : k = true) (h : A) : if k = true then A else B := by
  rw [hk]; exact iteT h
theorem dF {p : Prop} [Decidable p] (h : ¬ p) : decide p = false := decide_eq_false h
theorem dT' {p : Prop} [Decidable p] (h : p) : decide p = true := decide_eq_true h
/-- an item of a mapped list -/
theorem get_map {α β : Type} {f : α → β} {l : List α} {i : Nat} {y : β} (h : (l.map f)[i]? = some y) : ∃ x, l[i]? = some x ∧ y = f x := by
  rw [List.getElem?_map] at h
  cases e : l[i]? with
  | none => rw [e] at h; cases h
  | some x =>
    rw [e] at h
    exact ⟨x, rfl, (Option.some.inj h).symm⟩
end CP

namespace CP
open PySem PySem.Spec PyProof.Rows L2 TL CPM
/-! ### == of data -/
def dI (ns : List Int) : PyData := .list (ns.map PyData.int)
def dT (ws : List (List Nat)) : PyData := .list (ws.map fun w => PyData.str (S w))
def dR (P : List (List Int)) : PyData := .list (P.map dI)
theorem layI : ∀ ns : List Int, PyData.canLayAll0 (ns.map PyData.int) = true ∧ PyData.depthAll (ns.map PyData.int) = 0
  | [] => ⟨rfl, rfl⟩
  | n :: r => by
    obtain ⟨h1, h2⟩ := layI r
    constructor
    · rw [List.map_cons, PyData.canLayAll0, h1]; rfl
    · rw [List.map_cons, PyData.depthAll, h2]; rfl
def Plain (ws : List (List Nat)) : Prop := ∀ w ∈ ws, ∀ c ∈ w, c < 1114112
theorem layT : ∀ ws : List (List Nat), Plain ws → PyData.canLayAll0 (ws.map fun w => PyData.str (S w)) = true ∧ PyData.depthAll (ws.map fun w => PyData.str (S w)) = 0
  | [], _ => ⟨rfl, rfl⟩
  | n :: r, h => by
    obtain ⟨h1, h2⟩ := layT r fun w hw => h w (List.mem_cons_of_mem _ hw)
    constructor
    · have e : PyData.canLay0 (PyData.str (S n)) = true := by
        show (S n).cps.all (· < 0x110000) = true
        rw [← Array.all_toList, List.all_eq_true]
        intro c hc
        exact decide_eq_true (h n List.mem_cons_self c hc)
      rw [List.map_cons, PyData.canLayAll0, h1, e]; rfl
    · rw [List.map_cons, PyData.depthAll, h2]; rfl
theorem layR : ∀ P : List (List Int), PyData.canLayAll0 (P.map dI) = true ∧ PyData.depthAll (P.map dI) ≤ 1
  | [] => ⟨rfl, Nat.zero_le _⟩
  | n :: r => by
    obtain ⟨h1, h2⟩ := layR r
    obtain ⟨k1, k2⟩ := layI n
    constructor
    · rw [List.map_cons, PyData.canLayAll0, h1]
      show (PyData.canLayAll0 (n.map PyData.int) && true) = true
      rw [k1]; rfl
    · rw [List.map_cons, PyData.depthAll]
      have : PyData.depth (dI n) = 1 := by
        show PyData.depthAll (n.map PyData.int) + 1 = 1
        rw [k2]
      rw [this]
      exact Nat.max_le.mpr ⟨Nat.le_refl _, h2⟩
theorem shI (ns : List Int) : SeqAt.shaped (dI ns) = true := by
  obtain ⟨h1, h2⟩ := layI ns
  unfold SeqAt.shaped
  have e1 : PyData.canLay0 (dI ns) = true := h1
  have e2 : PyData.depth (dI ns) ≤ 64 := by
    show PyData.depthAll (ns.map PyData.int) + 1 ≤ 64
    rw [h2]; decide
  rw [e1, decide_eq_true e2]; rfl
theorem shT (ws : List (List Nat)) (hp : Plain ws) : SeqAt.shaped (dT ws) = true := by
  obtain ⟨h1, h2⟩ := layT ws hp
  unfold SeqAt.shaped
  have e1 : PyData.canLay0 (dT ws) = true := h1
  have e2 : PyData.depth (dT ws) ≤ 64 := by
    show PyData.depthAll (ws.map fun w => PyData.str (S w)) + 1 ≤ 64
    rw [h2]; decide
  rw [e1, decide_eq_true e2]; rfl
theorem shR (P : List (List Int)) : SeqAt.shaped (dR P) = true := by
  obtain ⟨h1, h2⟩ := layR P
  unfold SeqAt.shaped
  have e1 : PyData.canLay0 (dR P) = true := h1
  have e2 : PyData.depth (dR P) ≤ 64 := by
    show PyData.depthAll (P.map dI) + 1 ≤ 64
    omega
  rw [e1, decide_eq_true e2]; rfl
theorem eqv_self {d : PyData} (h : SeqAt.shaped d = true) : PyData.eqv d d = true := SeqAt.eqv_refl d (SeqAt.canLay_of_shaped h)
theorem eqv_nil (ns : List Int) : PyData.eqv (dI ns) (.list []) = ns.isEmpty := by
  cases ns <;> rfl
theorem sh_nil : SeqAt.shaped (.list []) = true := rfl
section
variable {K : PySem.W.Frag} {H : Hp}
theorem dp_ints : ∀ ns : List Int, DpAll K H (ns.map V.int) (ns.map PyData.int)
  | [] => .nil
  | n :: r => .cons (.int n) (dp_ints r)
theorem dp_txts : ∀ ws : List (List Nat), DpAll K H (ws.map vT) (ws.map fun w => PyData.str (S w))
  | [] => .nil
  | n :: r => .cons (.str _) (dp_txts r)
theorem dpI {p : Addr} {ns : List Int} (h : Ints H p ns) : Dp K H (.ref p) (dI ns) := .lst (SqL.of h) (dp_ints ns)
theorem dpT {p : Addr} {ws : List (List Nat)} (h : Txts H p ws) : Dp K H (.ref p) (dT ws) := .lst (SqL.of h) (dp_txts ws)
theorem dp_nil {p : Addr} (h : H p = some (.lst [])) : Dp K H (.ref p) (.list []) := .lst (SqL.of h) .nil
theorem dp_rows : ∀ (as : List Addr) (P : List (List Int)), RowsAt H as P → DpAll K H (as.map V.ref) (P.map dI)
  | [], [], _ => .nil
  | [], _ :: _, h => by have := h.1; simp at this
  | _ :: _, [], h => by have := h.1; simp at this
  | a :: as, r :: P, h => .cons (dpI (h.2 0 a r rfl rfl)) (dp_rows as P ⟨by have := h.1; simpa using this, fun i b q e1 e2 => h.2 (i + 1) b q (by simpa using e1) (by simpa using e2)⟩)
theorem dpR {p : Addr} {P : List (List Int)} (h : Rows H p P) : Dp K H (.ref p) (dR P) := by
  obtain ⟨as, e, r⟩ := h
  exact .lst (SqL.of e) (dp_rows as P r)
end
/-- a sorted list sorted anew is the same list -/
theorem sorted_same : ∀ {l m : List Int}, m.Perm l → l.Pairwise (fun x y => y ≤ x) → m.Pairwise (· ≥ ·) → m = l
  | [], m, h, _, _ => by simpa using h
  | x :: r, [], h, _, _ => by
    have := h.length_eq
    simp at this
  | x :: r, y :: s, h, hl, hm => by
    obtain ⟨a1, a2⟩ := List.pairwise_cons.mp hl
    obtain ⟨b1, b2⟩ := List.pairwise_cons.mp hm
    have hxy : x = y := by
      have m1 : x ∈ y :: s := h.mem_iff.mpr List.mem_cons_self
      have m2 : y ∈ x :: r := h.mem_iff.mp List.mem_cons_self
      rcases List.mem_cons.mp m1 with e | e
      · exact e
      · rcases List.mem_cons.mp m2 with e' | e'
        · exact e'.symm
        · have q1 := b1 x e
          have q2 := a1 y e'
          omega
    subst hxy
    have := (List.perm_cons x).mp h
    rw [sorted_same this a2 b2]
end CP

namespace CP
open PySem PySem.Spec PyProof.Rows L2 TL CPM
abbrev sWhole : Stmt := top 7
abbrev sIsBox : Stmt := top 8
abbrev sNeedBox : Stmt := top 9
abbrev sIsRow : Stmt := top 10
theorem scWhole : FnScope ["thing"] ["thing"] (defScope sWhole) := ⟨rfl, rfl, rfl, by decide +kernel, rfl, by decide +kernel, by decide +kernel⟩
theorem scIsBox : FnScope ["thing", "one"] ["thing"] (defScope sIsBox) := ⟨rfl, rfl, rfl, by decide +kernel, rfl, by decide +kernel, by decide +kernel⟩
theorem scNeedBox : FnScope ["box"] ["box"] (defScope sNeedBox) := ⟨rfl, rfl, rfl, by decide +kernel, rfl, by decide +kernel, by decide +kernel⟩
theorem scIsRow : FnScope ["thing", "columns", "height", "one"] ["thing", "columns", "height"] (defScope sIsRow) := ⟨rfl, rfl, rfl, by decide +kernel, rfl, by decide +kernel, by decide +kernel⟩
def spWhole : Sp := fun vs H Q _ => ∃ n : Int, vs = [.int n] ∧ Q (.bl true) H
def spIsBox : Sp := fun vs H Q _ => ∃ (p : Addr) (a b c : Nat), vs = [.ref p] ∧ Bx H p a b c ∧ ∀ H', Same H H' → Q (.bl true) H'
def spNeedBox : Sp := fun vs H Q _ => ∃ (p : Addr) (a b c : Nat), vs = [.ref p] ∧ Bx H p a b c ∧ ∀ H', Same H H' → Q .non H'
def spIsRow : Sp := fun vs H Q _ => ∃ (r : Addr) (b c : Nat) (row : List Int), vs = [.ref r, .int (b : Int), .int (c : Int)] ∧ Ints H r row ∧ RowOk b c row ∧ b ≤ 6 ∧ ∀ H', Same H H' → Q (.bl true) H'
section
variable {P : Program} {w : World} {K : PySem.W.Frag} {mg : Str → Option Value} {base : Heap} {f : Addr} {fd : FuncData}
theorem kInt : PySem.W.kitOne K (.type "int") (.type "int") = some true := kit_ty (by decide +kernel)
theorem kIntBool : PySem.W.kitOne K (.type "int") (.type "bool") = some false := kit_ty (by decide +kernel)
theorem kTup : PySem.W.kitOne K (.type "tuple") (.type "tuple") = some true := kit_ty (by decide +kernel)
theorem kList : PySem.W.kitOne K (.type "list") (.type "list") = some true := kit_ty (by decide +kernel)
theorem kStr : PySem.W.kitOne K (.type "str") (.type "str") = some true := kit_ty (by decide +kernel)
theorem kBool : PySem.W.kitOne K (.type "bool") (.type "bool") = some true := kit_ty (by decide +kernel)
theorem ok_whole (F : FnP K "is_whole_number" sWhole f fd) (mI : mg "isinstance" = none) (mInt : mg "int" = none) (mB : mg "bool" = none) : FnOk P w K mg base CX0 1 f fd ["thing"] spWhole := by
  refine F.ok scWhole (fun vs H Q E h => ?_) (fun cdv A outer s H vs Q E hr h => ?_)
  · obtain ⟨n, rfl, _⟩ := h
    rfl
  · obtain ⟨n, rfl, q⟩ := h
    refine ⟨_, PSs.nox (pss_one (ps_ret (pe_and (pe_callB call_isi (by rfl) mI (by decide +kernel) (pa_cons (pv 0) (pa_cons (pe_bltn (v := .ty "int") (by rfl) mInt (by decide +kernel) rfl) pa_nil)))
      (pe_one (pe_not (pe_callB call_isi (by rfl) mI (by decide +kernel) (pa_cons (pv 0) (pa_cons (pe_bltn (v := .ty "bool") (by rfl) mB (by decide +kernel) rfl) pa_nil)))))))), ?_⟩
    refine ⟨_, rfl, _, _, _, _, _, rfl, .ty _, .base (.int n), kInt, true, rfl, iteT ?_⟩
    exact ⟨_, rfl, _, _, _, _, _, rfl, .ty _, .base (.int n), kIntBool, false, rfl, q⟩
/-- is_box -/
theorem ok_isBox (F : FnP K "is_box" sIsBox f fd) (mI : mg "isinstance" = none) (mT : mg "tuple" = none) (mL : mg "len" = none) {fW : Addr} {fdW : FuncData} (CW : CalAt P w K mg base CX0 1 "is_whole_number" ["thing"] spWhole fW fdW) : FnOk P w K mg base CX0 2 f fd ["thing"] spIsBox := by
  refine F.ok scIsBox (fun vs H Q E h => ?_) (fun cdv A outer s H vs Q E hr h => ?_)
  · obtain ⟨p, a, b, c, rfl, _⟩ := h
    rfl
  · obtain ⟨p, a, b, c, rfl, hB, q⟩ := h
    refine ⟨_, PSs.nox (pss_cons (ps_if (PW.pt (pw_or (pt_not (pt_val (pe_callB call_isi (by rfl) mI (by decide +kernel) (pa_cons (pv 0) (pa_cons (pe_bltn (v := .ty "tuple") (by rfl) mT (by decide +kernel) rfl) pa_nil)))))
        (pw_or1 (pt_cmpR op_ne (pe_callB call_len_seq (by rfl) mL PySem.boot_len (pa_cons (pv 0) pa_nil)) pe_int (nomark _))))) (pss_one (ps_ret pe_bl)) pss_nil)
      (pss_one (ps_ret (pe_cmpR (op_eqD hr.units)
        (pe_lc (own := [("one", 1)]) (g := gName 1) (by rfl) scIsBox.nd (pi_tup (pv 0)) (blkOk_by (own := [("one", 1)]) (N := ["thing", "one"]) (sc := defScope sIsBox) (by decide +kernel)) (fun _ _ _ _ _ => pg_name (i := 1) scIsBox.nd rfl (Or.inl rfl))
          (fun _ _ _ _ _ => pts_one (PW.pt (pw_or (pt_not (pt_val (pe_call CW.ok hr (by rfl) CW.g CW.kp CW.b .nil pass0 (pa_cons (pv 1) pa_nil)))) (pw_or1 (pt_cmpR op_lt (pv 1) pe_int (nomark _))))))
          (fun _ _ _ _ _ => pv 1))
        (pe_lst pa_nil) (nomark _))))), ?_⟩
    have hT := SqT.of (K := K) hB.at_
    -- not isinstance(thing, tuple) or len(thing) != 3
    refine ⟨_, rfl, _, _, _, _, _, rfl, .ty _, .base (.tup hB.at_), kTup, true, rfl, iteF ?_⟩
    refine ⟨_, rfl, p, _, rfl, .inr hT, rfl, _, rfl, iteF ?_⟩
    -- the comprehension
    refine ⟨_, rfl, p, rfl, ⟨_, hT⟩, fun D hD => lc_tup (K := K) (a := p) (xs := [.int (a : Int), .int (b : Int), .int (c : Int)]) (fun i H' => Same H H' ∧ H' D = some (.lst []))
      ⟨same_upd hD, upd_same⟩ (fun i H' _ hP => .inl (.inl (hP.1 _ _ hB.at_))) ?_ ?_⟩
    · rintro i x H' hx hP
      obtain ⟨n, rfl, hn⟩ : ∃ n : Int, x = .int n ∧ 1 ≤ n := by
        have hm := List.mem_of_getElem? hx
        have h1 := hB.a1
        have h2 := hB.b1
        have h3 := hB.c1
        simp only [List.mem_cons, List.not_mem_nil, or_false] at hm
        rcases hm with e | e | e
        · exact ⟨_, e, by omega⟩
        · exact ⟨_, e, by omega⟩
        · exact ⟨_, e, by omega⟩
      refine ⟨rfl, ?_⟩
      refine ⟨_, rfl, n, rfl, true, rfl, iteF ?_⟩
      exact ⟨_, rfl, n, 1, rfl, rfl, _, rfl, ifF (dF (by omega)) hP⟩
    · rintro H' ⟨sm, eD⟩
      refine ⟨Nat.zero_le _, fun o no => ?_⟩
      have eD' : (upd H' o (.lst [])) D = some (.lst []) := by rw [upd_ne (ne_of_none eD no)]; exact eD
      refine ⟨_, _, dp_nil eD', dp_nil upd_same, sh_nil, sh_nil, ?_⟩
      exact q _ (sm.trans (same_upd no))
/-- need_box -/
theorem ok_needBox (F : FnP K "need_box" sNeedBox f fd) {fW : Addr} {fdW : FuncData} (CW : CalAt P w K mg base CX0 2 "is_box" ["thing"] spIsBox fW fdW) : FnOk P w K mg base CX0 3 f fd ["box"] spNeedBox := by
  refine F.ok scNeedBox (fun vs H Q E h => ?_) (fun cdv A outer s H vs Q E hr h => ?_)
  · obtain ⟨p, a, b, c, rfl, _⟩ := h
    rfl
  · obtain ⟨p, a, b, c, rfl, hB, q⟩ := h
    refine ⟨_, PSs.nox (pss_one (ps_if (pt_not (pt_val (pe_call CW.ok hr (by rfl) CW.g CW.kp CW.b .nil pass0 (pa_cons (pv 0) pa_nil)))) pss_never pss_nil)), ?_⟩
    exact ⟨_, rfl, p, a, b, c, rfl, hB, fun H' sm => ⟨true, rfl, iteF (q H' sm)⟩⟩
/-- is_row_of -/
theorem ok_isRow (F : FnP K "is_row_of" sIsRow f fd) (mI : mg "isinstance" = none) (mT : mg "list" = none) (mL : mg "len" = none) (mS : mg "sorted" = none) {fW : Addr} {fdW : FuncData} (CW : CalAt P w K mg base CX0 1 "is_whole_number" ["thing"] spWhole fW fdW) : FnOk P w K mg base CX0 2 f fd ["thing", "columns", "height"] spIsRow := by
  refine F.ok scIsRow (fun vs H Q E h => ?_) (fun cdv A outer s H vs Q E hr h => ?_)
  · obtain ⟨r, b, c, row, rfl, _⟩ := h
    rfl
  · obtain ⟨r, b, c, row, rfl, hI, hR, hb, q⟩ := h
    have hL := SqL.of (K := K) hI
    refine ⟨_, PSs.nox (pss_cons (ps_if (PW.pt (pw_or (pt_not (pt_val (pe_callB call_isi (by rfl) mI (by decide +kernel) (pa_cons (pv 0) (pa_cons (pe_bltn (v := .ty "list") (by rfl) mT (by decide +kernel) rfl) pa_nil)))))
        (pw_or1 (pt_cmpR op_ne (pe_callB call_len_seq (by rfl) mL PySem.boot_len (pa_cons (pv 0) pa_nil)) (pv 1) (nomark _))))) (pss_one (ps_ret pe_bl)) pss_nil)
      (pss_cons (ps_if (pt_cmpR (op_neD hr.units)
        (pe_lc (own := [("one", 3)]) (g := gName 3) (by rfl) scIsRow.nd (pi_list (pv 0)) (blkOk_by (own := [("one", 3)]) (N := ["thing", "columns", "height", "one"]) (sc := defScope sIsRow) (by decide +kernel)) (fun _ _ _ _ _ => pg_name (i := 3) scIsRow.nd rfl (Or.inl rfl))
          (fun _ _ _ _ _ => pts_one (PW.pt (pw_or (pt_not (pt_val (pe_call CW.ok hr (by rfl) CW.g CW.kp CW.b .nil pass0 (pa_cons (pv 3) pa_nil)))) (pw_or (pt_cmpR op_lt (pv 3) pe_int (nomark _)) (pw_or1 (pt_cmpR op_gt (pv 3) (pv 2) (nomark _)))))))
          (fun _ _ _ _ _ => pv 3))
        (pe_lst pa_nil) (nomark _)) (pss_one (ps_ret pe_bl)) pss_nil)
      (pss_one (ps_ret (pe_cmpR (op_eqD hr.units) (pv 0) (pe_callBK (cr_sortedRev (b := true)) (by rfl) mS (by decide +kernel) (pa_cons (pv 0) pa_nil) (pk_cons pe_bl pk_nil)) (nomark _)))))), ?_⟩
    refine ⟨_, rfl, _, _, _, _, _, rfl, .ty _, .base (.lst hI), kList, true, rfl, iteF ?_⟩
    refine ⟨_, rfl, r, _, rfl, .inl hL, _, rfl, rfl, _, rfl, ?_⟩
    have e1 : decide (V.int (((row.map V.int).length : Nat) : Int) = V.int (b : Int)) = true := by
      rw [List.length_map, hR.1]; exact decide_eq_true rfl
    rw [e1]
    refine iteF ?_
    refine ⟨_, rfl, r, rfl, ⟨_, hL⟩, fun D hD => lc_list (K := K) (a := r) (xs := row.map V.int) (fun i H' => Same H H' ∧ H' D = some (.lst []))
      ⟨same_upd hD, upd_same⟩ (fun i H' _ hP => hP.1.seq hL) ?_ ?_⟩
    · rintro i x H' hx hP
      obtain ⟨n, hn, rfl⟩ := get_map hx
      have hb := hR.2.1 n (List.mem_of_getElem? hn)
      refine ⟨rfl, ?_⟩
      refine ⟨_, rfl, n, rfl, true, rfl, iteF ?_⟩
      exact ⟨_, rfl, n, 0, rfl, rfl, _, rfl, ifF (dF (by omega)) ⟨_, rfl, _, rfl, n, (c : Int), rfl, rfl, _, rfl, ifF (dF (by omega)) hP⟩⟩
    · rintro H' ⟨sm, eD⟩
      refine ⟨Nat.zero_le _, fun o no => ?_⟩
      have eD' : (upd H' o (.lst [])) D = some (.lst []) := by rw [upd_ne (ne_of_none eD no)]; exact eD
      refine ⟨_, _, dp_nil eD', dp_nil upd_same, sh_nil, sh_nil, _, rfl, iteF ?_⟩
      have s2 := sm.trans (same_upd (o := .lst []) no)
      refine ⟨_, rfl, _, rfl, r, row, rfl, rfl, s2.seq hL, fun ns' p hp ho np => ?_⟩
      have e2 : ns' = row := sorted_same hp hR.2.2 ho
      subst e2
      have s3 := s2.trans (same_upd (o := .lst (ns'.map V.int)) np)
      refine ⟨_, _, dpI (hI.same s3), dpI upd_same, shI _, shI _, ?_⟩
      rw [eqv_self (shI _)]
      exact q _ s3
end
end CP

namespace CP
open PySem PySem.Spec PyProof.Rows L2 TL CPM
/-- over zip of two lists that the body leaves as they are; n the turns -/
theorem for_zip2 {K : PySem.W.Frag} {a b : Addr} {xs ys : List V} {g : TG} {tb : TS} {D : Ends} {σ : L2.St} {H : Hp} (n : Nat) (hn : n ≤ xs.length) (hn2 : n ≤ ys.length) (he : xs.length ≤ n ∨ ys.length ≤ n) (Pv : Nat → L2.St → Hp → Prop) (h0 : Pv 0 σ H)
    (hl : ∀ i σ H, Pv i σ H → SqL K H a xs ∧ SqL K H b ys)
    (hs : ∀ i x y T σ H, xs[i]? = some x → ys[i]? = some y → Pv i σ H → H T = none → g (.ref T) σ (upd H T (.tup [x, y])) fun σ2 H2 => tb { D with nx := Pv (i + 1), ct := Pv (i + 1), bk := D.nx } σ2 H2) (hd : ∀ σ H, Pv n σ H → D.nx σ H) :
    ∃ W : Nat → Nat → L2.St → Hp → Prop, (∃ m, W 0 m σ H) ∧ ∀ i m σ H, W i m σ H →
      ((Itz K a b).stop i H ∧ D.nx σ H) ∨ ((Itz K a b).go i H ∧ ∃ N : L2.St → Hp → Prop, (∀ σ' H', N σ' H' → ∃ m', m' < m ∧ W (i + 1) m' σ' H') ∧ ∀ x H', (Itz K a b).yld i H x H' → g x σ H' fun σ2 H2 => tb { D with nx := N, ct := N, bk := D.nx } σ2 H2) := by
  refine ⟨fun i m σ H => m = n - i ∧ i ≤ n ∧ Pv i σ H, ⟨n, by simp, Nat.zero_le _, h0⟩, ?_⟩
  rintro i m σ H ⟨rfl, hi, p⟩
  obtain ⟨q1, q2⟩ := hl i σ H p
  by_cases hlt : i < n
  · have g1 : xs[i]? = some (xs[i]'(by omega)) := List.getElem?_eq_getElem (by omega)
    have g2 : ys[i]? = some (ys[i]'(by omega)) := List.getElem?_eq_getElem (by omega)
    refine .inr ⟨⟨xs, ys, _, _, q1, q2, g1, g2⟩, Pv (i + 1), fun σ' H' p' => ⟨n - (i + 1), by omega, rfl, hlt, p'⟩, fun x H' y => ?_⟩
    obtain ⟨T, x1, x2, rfl, nT, rfl, f1, f2⟩ := y
    have e1 := (f1 xs q1)
    have e2 := (f2 ys q2)
    exact hs i x1 x2 T σ H e1 e2 p nT
  · have e : i = n := by omega
    subst e
    refine .inl ⟨⟨xs, ys, q1, q2, ?_⟩, hd σ H p⟩
    rcases he with h | h
    · exact .inl h
    · exact .inr h
abbrev sIsPile : Stmt := top 11
abbrev sNeedPile : Stmt := top 12
abbrev nIsPile : List Str := ["box", "thing", "rows", "columns", "height", "upper", "lower", "row", "j"]
theorem scIsPile : FnScope nIsPile ["box", "thing"] (defScope sIsPile) := ⟨rfl, rfl, rfl, by decide +kernel, rfl, by decide +kernel, by decide +kernel⟩
theorem scNeedPile : FnScope ["box", "pile"] ["box", "pile"] (defScope sNeedPile) := ⟨rfl, rfl, rfl, by decide +kernel, rfl, by decide +kernel, by decide +kernel⟩
def RowsOk (a b c : Nat) (P : List (List Int)) : Prop := P.length = a ∧ ∀ row ∈ P, RowOk b c row
def spIsPile : Sp := fun vs H Q _ => ∃ (p q : Addr) (a b c : Nat) (P : List (List Int)), vs = [.ref p, .ref q] ∧ Bx H p a b c ∧ Rows H q P ∧ RowsOk a b c P ∧ ∀ (r : Bool) H', Same H H' → (r = true ↔ PileOk a b c P) → Q (.bl r) H'
def spNeedPile : Sp := fun vs H Q _ => ∃ (p q : Addr) (a b c : Nat) (P : List (List Int)), vs = [.ref p, .ref q] ∧ Bx H p a b c ∧ Rows H q P ∧ PileOk a b c P ∧ ∀ H', Same H H' → Q .non H'
theorem cut1 (xs : List V) : cutV xs (some 1) none = xs.drop 1 := by
  unfold cutV
  rw [show HT.sIx xs.length 0 (some 1) = min 1 xs.length from HT.sIx_nat xs.length 0 1, HT.sIx_none]
  cases xs with
  | nil => rfl
  | cons x r =>
    rw [show min 1 (x :: r).length = 1 by
      rw [List.length_cons]
      omega]
    show (List.take ((x :: r).length - 1) r) = r
    rw [List.length_cons, Nat.add_sub_cancel]
    exact List.take_length
/-- the columns where the lower row is higher -/
def badJ (u l : List Int) (n : Nat) : List Int := ((List.range n).filter fun j => decide (u.getD j 0 < l.getD j 0)).map fun j : Nat => (j : Int)
theorem badJ_zero (u l : List Int) : badJ u l 0 = [] := rfl
theorem badJ_yes {u l : List Int} {n : Nat} (h : u.getD n 0 < l.getD n 0) : badJ u l (n + 1) = badJ u l n ++ [(n : Int)] := by
  unfold badJ
  rw [List.range_succ, List.filter_append, List.map_append]
  simp only [List.filter_cons, List.filter_nil, decide_eq_true h, if_true, List.map_cons, List.map_nil]
theorem badJ_no {u l : List Int} {n : Nat} (h : ¬ u.getD n 0 < l.getD n 0) : badJ u l (n + 1) = badJ u l n := by
  unfold badJ
  rw [List.range_succ, List.filter_append, List.map_append]
  simp only [List.filter_cons, List.filter_nil, decide_eq_false h, Bool.false_eq_true, if_false, List.map_nil, List.append_nil]
theorem badJ_len (u l : List Int) (n : Nat) : (badJ u l n).length ≤ n := by
  unfold badJ
  rw [List.length_map]
  exact Nat.le_trans (List.length_filter_le _ _) (by rw [List.length_range]; exact Nat.le_refl _)
theorem badJ_iff {u l : List Int} {n : Nat} (hu : u.length = n) (hl : l.length = n) : (badJ u l n).isEmpty = true ↔ Below u l := by
  unfold badJ
  rw [List.isEmpty_iff, List.map_eq_nil_iff, List.filter_eq_nil_iff]
  constructor
  · intro h j x y e1 e2
    have hj : j < n := by have := (List.getElem?_eq_some_iff.mp e1).1; omega
    have := h j (List.mem_range.mpr hj)
    rw [List.getD_eq_getElem?_getD, List.getD_eq_getElem?_getD, e1, e2] at this
    simpa using this
  · intro h j hj
    have hj := List.mem_range.mp hj
    have e1 : u[j]? = some (u[j]'(by omega)) := List.getElem?_eq_getElem (by omega)
    have e2 : l[j]? = some (l[j]'(by omega)) := List.getElem?_eq_getElem (by omega)
    have := h j _ _ e1 e2
    rw [List.getD_eq_getElem?_getD, List.getD_eq_getElem?_getD, e1, e2]
    simpa using this
theorem getD_some {l : List Int} {j : Nat} (h : j < l.length) : l[j]? = some (l.getD j 0) := by
  rw [List.getD_eq_getElem?_getD, List.getElem?_eq_getElem h]; rfl
section
variable {Pg : Program} {w : World} {K : PySem.W.Frag} {mg : Str → Option Value} {base : Heap} {f : Addr} {fd : FuncData}
/-- is_pile -/
theorem ok_isPile (F : FnP K "is_pile" sIsPile f fd) (mI : mg "isinstance" = none) (mT : mg "list" = none) (mL : mg "len" = none) (mZ : mg "zip" = none) (mR : mg "range" = none)
    {fB : Addr} {fdB : FuncData} (CB : CalAt Pg w K mg base CX0 3 "need_box" ["box"] spNeedBox fB fdB) {fR : Addr} {fdR : FuncData} (CR : CalAt Pg w K mg base CX0 2 "is_row_of" ["thing", "columns", "height"] spIsRow fR fdR) : FnOk Pg w K mg base CX0 4 f fd ["box", "thing"] spIsPile := by
  refine F.ok scIsPile (fun vs H Q E h => ?_) (fun cdv A outer s H vs Q E hr h => ?_)
  · obtain ⟨p, q, a, b, c, P, rfl, _⟩ := h
    rfl
  · obtain ⟨p, q, a, b, c, P, rfl, hB, hR, hO, k⟩ := h
    obtain ⟨as, eq, hA⟩ := hR
    have hr2 := hr.mono (show 2 ≤ 3 by decide)
    refine ⟨_, PSs.nox (pss_cons (ps_expr (pe_call CB.ok hr (by rfl) CB.g CB.kp CB.b .nil pass0 (pa_cons (pv 0) pa_nil)))
      (pss_cons (ps_asg (pv 0) (pg_tup (by rfl) (pgs_cons (pg_name (i := 2) scIsPile.nd rfl (.inl rfl)) (pgs_cons (pg_name (i := 3) scIsPile.nd rfl (.inr rfl)) (pgs_cons (pg_name (i := 4) scIsPile.nd rfl (.inr rfl)) pgs_nil)))))
      (pss_cons (ps_if (PW.pt (pw_or (pt_not (pt_val (pe_callB call_isi (by rfl) mI (by decide +kernel) (pa_cons (pv 1) (pa_cons (pe_bltn (v := .ty "list") (by rfl) mT (by decide +kernel) rfl) pa_nil)))))
        (pw_or1 (pt_cmpR op_ne (pe_callB call_len_seq (by rfl) mL PySem.boot_len (pa_cons (pv 1) pa_nil)) (pv 2) (nomark _))))) (pss_one (ps_ret pe_bl)) pss_nil)
      (pss_cons (ps_if (pt_cmpR (op_neD hr.units)
        (pe_lc (own := [("row", 7)]) (g := gName 7) (by rfl) scIsPile.nd (pi_list (pv 1)) (blkOk_by (own := [("row", 7)]) (N := nIsPile) (sc := defScope sIsPile) (by decide +kernel)) (fun _ _ _ _ _ => pg_name (i := 7) scIsPile.nd rfl (Or.inl rfl))
          (fun _ _ _ _ _ => pts_one (pt_not (pt_val (pe_call CR.ok hr2 (by rfl) CR.g CR.kp CR.b .nil pass0 (pa_cons (pv 7) (pa_cons (pv 3) (pa_cons (pv 4) pa_nil)))))))
          (fun _ _ _ _ _ => pv 7))
        (pe_lst pa_nil) (nomark _)) (pss_one (ps_ret pe_bl)) pss_nil)
      (pss_cons (ps_for PassesOwn.never rfl (pi_zip (by rfl) mZ (pa_cons (pv 1) (pa_cons (pe_slice sl_list (pv 1) (po_some pe_int) po_none) pa_nil)))
          (pg_tup rfl (pgs_cons (pg_name (i := 5) scIsPile.nd rfl (.inr rfl)) (pgs_cons (pg_name (i := 6) scIsPile.nd rfl (.inr rfl)) pgs_nil)))
        (pss_one (ps_if (pt_cmpR (op_neD hr.units)
          (pe_lc (own := [("j", 8)]) (g := gName 8) (by rfl) scIsPile.nd (pi_range1 (by rfl) mR (pa_cons (pv 3) pa_nil)) (blkOk_by (own := [("j", 8)]) (N := nIsPile) (sc := defScope sIsPile) (by decide +kernel)) (fun _ _ _ _ _ => pg_name (i := 8) scIsPile.nd rfl (Or.inl rfl))
            (fun _ _ _ _ _ => pts_one (pt_cmpR op_gt (pe_ix (r := rIxL K) ix_list (pv 6) (pv 8) (fun _ _ => rfl)) (pe_ix (r := rIxL K) ix_list (pv 5) (pv 8) (fun _ _ => rfl)) (nomark _)))
            (fun _ _ _ _ _ => pv 8))
          (pe_lst pa_nil) (nomark _)) (pss_one (ps_ret pe_bl)) pss_nil)))
      (pss_one (ps_ret pe_bl))))))), ?_⟩
    -- need_box(box)
    refine ⟨_, rfl, p, a, b, c, rfl, hB, fun H1 s1 => ?_⟩
    -- rows, columns, height = box
    refine ⟨_, rfl, p, _, rfl, SqT.of (s1 _ _ hB.at_), rfl, _, _, rfl, _, _, rfl, _, _, rfl, rfl, ?_⟩
    -- not isinstance(thing, list) or len(thing) != rows
    have eq1 := s1 _ _ eq
    have hL1 := SqL.of (K := K) eq1
    refine ⟨_, rfl, _, _, _, _, _, rfl, .ty _, .base (.lst eq1), kList, true, rfl, iteF ?_⟩
    have e1 : decide (V.int (((as.map V.ref).length : Nat) : Int) = V.int (a : Int)) = true := by
      rw [List.length_map, hA.1, hO.1]; exact decide_eq_true rfl
    refine ⟨_, rfl, q, _, rfl, .inl hL1, _, rfl, rfl, _, rfl, ifF (by rw [e1]; rfl) ?_⟩
    -- [row for row in thing if not is_row_of(..)] != []
    refine ⟨_, rfl, q, rfl, ⟨_, hL1⟩, fun D hD => lc_list (K := K) (a := q) (xs := as.map V.ref) (fun i H' => Same H1 H' ∧ H' D = some (.lst []))
      ⟨same_upd hD, upd_same⟩ (fun i H' _ hP => hP.1.seq hL1) ?_ ?_⟩
    · rintro i x H' hx hP
      obtain ⟨ra, row, rfl, g1, g2, g3⟩ := hA.get hx
      refine ⟨rfl, ?_⟩
      exact ⟨_, rfl, _, rfl, _, rfl, ra, b, c, row, rfl, g3.same (s1.trans hP.1), hO.2 row (List.mem_of_getElem? g2), hB.b6, fun H2 s2 => ⟨true, rfl, iteF ⟨hP.1.trans s2, s2 _ _ hP.2⟩⟩⟩
    · rintro H2 ⟨sm2, eD⟩
      refine ⟨Nat.zero_le _, fun o no => ?_⟩
      have eD' : (upd H2 o (.lst [])) D = some (.lst []) := by rw [upd_ne (ne_of_none eD no)]; exact eD
      refine ⟨_, _, dp_nil eD', dp_nil upd_same, sh_nil, sh_nil, _, rfl, iteF ?_⟩
      have s3 := (s1.trans sm2).trans (same_upd (o := .lst []) no)
      generalize upd H2 o (.lst []) = H3 at s3 ⊢
      -- zip(thing, thing[1:])
      refine ⟨_, rfl, _, rfl, 1, rfl, q, as.map V.ref, rfl, s3.seq (SqL.of (K := K) eq), fun cc nc => ?_⟩
      have s4 := s3.trans (same_upd (o := .lst (cutV (as.map V.ref) (some 1) none)) nc)
      have ec : (upd H3 cc (.lst (cutV (as.map V.ref) (some 1) none))) cc = some (.lst ((as.map V.ref).drop 1)) := by rw [upd_same, cut1]
      generalize upd H3 cc (.lst (cutV (as.map V.ref) (some 1) none)) = H4 at s4 ec ⊢
      refine ⟨q, cc, as.map V.ref, _, rfl, s4.seq (SqL.of (K := K) eq), SqL.of ec, for_zip2 (K := K) (a := q) (b := cc) (xs := as.map V.ref) (ys := (as.map V.ref).drop 1) (as.length - 1) (by rw [List.length_map]; omega) (by rw [List.length_drop, List.length_map]; omega) (.inr (by rw [List.length_drop, List.length_map]; omega))
        (fun i σ H' => ∃ y5 y6, σ = [some (.ref p), some (.ref q), some (.int (a : Int)), some (.int (b : Int)), some (.int (c : Int)), y5, y6, none, none] ∧ Same H4 H' ∧ ∀ (m : Nat) (u l : List Int), m < i → P[m]? = some u → P[m + 1]? = some l → Below u l)
        ⟨none, none, rfl, Same.refl _, fun m u l h => absurd h (Nat.not_lt_zero _)⟩ ?_ ?_ ?_⟩
      · rintro i σ H' ⟨y5, y6, rfl, sm, _⟩
        exact ⟨sm.seq (s4.seq (SqL.of (K := K) eq)), SqL.of (sm _ _ ec)⟩
      · rintro i x y T σ H' hx hy ⟨y5, y6, rfl, sm, hbel⟩ nT
        rw [List.getElem?_drop, Nat.add_comm] at hy
        obtain ⟨ra, u, rfl, g1, g2, g3⟩ := hA.get hx
        obtain ⟨rb, l, rfl, j1, j2, j3⟩ := hA.get hy
        have sT := sm.trans (same_upd (o := .tup [.ref ra, .ref rb]) nT)
        have sA := s4.trans sT
        refine ⟨T, _, rfl, SqT.of upd_same, rfl, _, _, rfl, _, _, rfl, rfl, ?_⟩
        generalize upd H' T (.tup [.ref ra, .ref rb]) = H5 at sT sA ⊢
        have lu := (hO.2 u (List.mem_of_getElem? g2)).1
        have ll := (hO.2 l (List.mem_of_getElem? j2)).1
        have hb6 := hB.b6
        -- [j for j in range(columns) if lower[j] > upper[j]] != []
        refine ⟨_, rfl, (b : Int), rfl, by omega, by omega, fun D hD => lc_range (lo := 0) (n := ((b : Int)).toNat) (fun i H' => Same H5 H' ∧ H' D = some (.lst ((badJ u l i).map V.int))) ⟨same_upd hD, upd_same⟩ ?_ ?_⟩
        · rintro j H6 hj ⟨sm6, eD6⟩
          have hj : j < b := by omega
          refine ⟨rfl, ?_⟩
          have q1 : atI (l.map V.int) (0 + (j : Int)) = some (.int (l.getD j 0)) := by
            rw [show (0 : Int) + (j : Int) = (j : Int) by omega]
            refine atI_nat ?_
            rw [List.getElem?_map, getD_some (by omega)]; rfl
          have q2 : atI (u.map V.int) (0 + (j : Int)) = some (.int (u.getD j 0)) := by
            rw [show (0 : Int) + (j : Int) = (j : Int) by omega]
            refine atI_nat ?_
            rw [List.getElem?_map, getD_some (by omega)]; rfl
          refine ⟨_, rfl, _, rfl, rb, _, _, _, rfl, rfl, SqL.of (j3.same (sA.trans sm6)), q1, _, rfl, _, rfl, ra, _, _, _, rfl, rfl, SqL.of (g3.same (sA.trans sm6)), q2, _, _, rfl, rfl, _, rfl, ?_⟩
          by_cases hlt : u.getD j 0 < l.getD j 0
          · refine ifT (dT' hlt) ⟨_, rfl, _, eD6, ?_, ?_, ?_⟩
            · rw [List.length_map]
              exact sz (Nat.le_trans (badJ_len u l j) (by omega))
            · exact same_new sm6 hD
            · rw [upd_same, badJ_yes hlt, List.map_append]
              show some (HO.lst (_ ++ [V.int (0 + (j : Int))])) = some (HO.lst (_ ++ [V.int (j : Int)]))
              rw [show (0 : Int) + (j : Int) = (j : Int) by omega]
          · refine ifF (dF hlt) ⟨sm6, ?_⟩
            rw [badJ_no hlt]
            exact eD6
        · rintro H6 ⟨sm6, eD6⟩
          rw [show ((b : Int)).toNat = b by omega] at eD6
          refine ⟨Nat.zero_le _, fun o no => ?_⟩
          have eD7 : Ints (upd H6 o (.lst [])) D (badJ u l b) := by
            show (upd H6 o (.lst [])) D = _
            rw [upd_ne (ne_of_none eD6 no)]; exact eD6
          refine ⟨_, _, dpI eD7, dp_nil upd_same, shI _, sh_nil, _, rfl, ?_⟩
          rw [eqv_nil]
          have s7 := sm6.trans (same_upd (o := .lst []) no)
          by_cases hbl : (badJ u l b).isEmpty = true
          · refine ifF (by rw [hbl]; rfl) ⟨_, _, rfl, sT.trans s7, fun m u' l' hm e1 e2 => ?_⟩
            by_cases hmi : m < i
            · exact hbel m u' l' hmi e1 e2
            · have : m = i := by omega
              subst this
              rw [g2] at e1; rw [j2] at e2
              cases e1; cases e2
              exact (badJ_iff lu ll).mp hbl
          · refine ifT (by rw [Bool.eq_false_iff.mpr hbl]; rfl) (k false _ (sA.trans s7) ?_)
            refine ⟨fun z => (nomatch z), fun z => ?_⟩
            exact absurd ((badJ_iff lu ll).mpr (z.2.2 i u l g2 j2)) hbl
      · rintro σ H' ⟨y5, y6, rfl, sm, hbel⟩
        refine k true _ (s4.trans sm) ⟨fun _ => ⟨hO.1, hO.2, fun i u l e1 e2 => hbel i u l ?_ e1 e2⟩, fun _ => rfl⟩
        have := (List.getElem?_eq_some_iff.mp e2).1
        have := hA.1
        omega
/-- need_pile -/
theorem ok_needPile (F : FnP K "need_pile" sNeedPile f fd) {fW : Addr} {fdW : FuncData} (CW : CalAt Pg w K mg base CX0 4 "is_pile" ["box", "thing"] spIsPile fW fdW) : FnOk Pg w K mg base CX0 5 f fd ["box", "pile"] spNeedPile := by
  refine F.ok scNeedPile (fun vs H Q E h => ?_) (fun cdv A outer s H vs Q E hr h => ?_)
  · obtain ⟨p, q, a, b, c, P, rfl, _⟩ := h
    rfl
  · obtain ⟨p, q, a, b, c, P, rfl, hB, hR, hO, k⟩ := h
    refine ⟨_, PSs.nox (pss_one (ps_if (pt_not (pt_val (pe_call CW.ok hr (by rfl) CW.g CW.kp CW.b .nil pass0 (pa_cons (pv 0) (pa_cons (pv 1) pa_nil))))) pss_never pss_nil)), ?_⟩
    exact ⟨_, rfl, _, rfl, p, q, a, b, c, P, rfl, hB, hR, ⟨hO.1, hO.2.1⟩, fun r H' sm hiff => ⟨r, rfl, ifF (by rw [hiff.mpr hO]; rfl) (k H' sm)⟩⟩
end
end CP

namespace CP
open PySem PySem.Spec PyProof.Rows L2 TL CPM
/-! ### rules with the written part named: in a comprehension's block a reading may not speak of the block -/
section
variable {X : Cx}
theorem pi_listK (K : PySem.W.Frag) {tg l : Expr} {tl : TE} (hl : PE X l tl) (h : X.K = K := by rfl) : PI X tg l (iList K tl) := by
  subst h; exact pi_list hl
abbrev rLenK (K : PySem.W.Frag) : List V → Hp → VK → Prop := fun xs H Q => ∃ p ys, xs = [.ref p] ∧ (SqL K H p ys ∨ SqT K H p ys) ∧ Q (.int ys.length) H
theorem call_lenK (K : PySem.W.Frag) (h : X.K = K := by rfl) : CallR X (.builtin "len") (rLenK K) := by
  subst h; exact call_len_seq
theorem ix_listK (K : PySem.W.Frag) (h : X.K = K := by rfl) : IxR X (rIxL K) := by
  subst h; exact ix_list
theorem ix_tupK (K : PySem.W.Frag) (h : X.K = K := by rfl) : IxR X (rIxT K) := by
  subst h; exact ix_tup
end
theorem filt_yes {p : Int → Bool} {l : List Int} {j : Nat} {x : Int} (h : l[j]? = some x) (hp : p x = true) : (l.take (j + 1)).filter p = (l.take j).filter p ++ [x] := by
  rw [take_more h, List.filter_append]
  simp only [List.filter_cons, List.filter_nil, hp, if_true]
theorem filt_no {p : Int → Bool} {l : List Int} {j : Nat} {x : Int} (h : l[j]? = some x) (hp : p x = false) : (l.take (j + 1)).filter p = (l.take j).filter p := by
  rw [take_more h, List.filter_append]
  simp only [List.filter_cons, List.filter_nil, hp, Bool.false_eq_true, if_false, List.append_nil]
theorem range_snoc {α : Type} (f : Nat → α) (n : Nat) : (List.range (n + 1)).map f = (List.range n).map f ++ [f n] := by
  rw [List.range_succ, List.map_append]; rfl
theorem filt_len {p : Int → Bool} {l : List Int} (j : Nat) : ((l.take j).filter p).length ≤ l.length :=
  Nat.le_trans (List.length_filter_le _ _) (by rw [List.length_take]; exact Nat.min_le_right _ _)
abbrev sStairs : Stmt := top 14
abbrev sAreStairs : Stmt := top 15
abbrev sPileOf : Stmt := top 16
abbrev nStairs : List Str := ["box", "pile", "found", "k", "row", "height"]
abbrev nPileOf : List Str := ["box", "stairs", "found", "i", "j", "one"]
theorem scStairs : FnScope nStairs ["box", "pile"] (defScope sStairs) := ⟨rfl, rfl, rfl, by decide +kernel, rfl, by decide +kernel, by decide +kernel⟩
theorem scAreStairs : FnScope ["box", "thing"] ["box", "thing"] (defScope sAreStairs) := ⟨rfl, rfl, rfl, by decide +kernel, rfl, by decide +kernel, by decide +kernel⟩
theorem scPileOf : FnScope nPileOf ["box", "stairs"] (defScope sPileOf) := ⟨rfl, rfl, rfl, by decide +kernel, rfl, by decide +kernel, by decide +kernel⟩
def cRow : Scope := { kind := .function, names := [(Str.ofString ".0", .local), (Str.ofString "row", .local), (Str.ofString "len", .globalImplicit), (Str.ofString "k", .free)], isGenerator := false, isCoroutine := false, more := [] }
def cJ : Scope := { kind := .function, names := [(Str.ofString ".0", .local), (Str.ofString "j", .cell), (Str.ofString "len", .globalImplicit), (Str.ofString "i", .free), (Str.ofString "stairs", .free)], isGenerator := false, isCoroutine := false, more := [] }
def spStairs : Sp := fun vs H Q _ => ∃ (p q : Addr) (a b c : Nat) (P : List (List Int)), vs = [.ref p, .ref q] ∧ Bx H p a b c ∧ Rows H q P ∧ PileOk a b c P ∧ ∀ r H', Same H H' → Rows H' r (stairsL c P) → Q (.ref r) H'
def spAreStairs : Sp := fun vs H Q _ => ∃ (p q : Addr) (a b c : Nat) (T : List (List Int)), vs = [.ref p, .ref q] ∧ Bx H p a b c ∧ Rows H q T ∧ RowsOk c a b T ∧ ∀ (r : Bool) H', Same H H' → (r = true ↔ PileOk c a b T) → Q (.bl r) H'
def spPileOf : Sp := fun vs H Q _ => ∃ (p q : Addr) (a b c : Nat) (T : List (List Int)), vs = [.ref p, .ref q] ∧ Bx H p a b c ∧ Rows H q T ∧ PileOk c a b T ∧ ∀ r H', Same H H' → Rows H' r (pileL a b T) → Q (.ref r) H'
section
variable {Pg : Program} {w : World} {K : PySem.W.Frag} {mg : Str → Option Value} {base : Heap} {f : Addr} {fd : FuncData}
/-- stairs_of -/
theorem ok_stairs (F : FnP K "stairs_of" sStairs f fd) (mL : mg "len" = none) (mR : mg "range" = none)
    {fB : Addr} {fdB : FuncData} (CB : CalAt Pg w K mg base CX0 5 "need_pile" ["box", "pile"] spNeedPile fB fdB) : FnOk Pg w K mg base CX0 6 f fd ["box", "pile"] spStairs := by
  refine F.ok scStairs (fun vs H Q E h => ?_) (fun cdv A outer s H vs Q E hr h => ?_)
  · obtain ⟨p, q, a, b, c, P, rfl, _⟩ := h
    rfl
  · obtain ⟨p, q, a, b, c, P, rfl, hB, hR, hO, k⟩ := h
    obtain ⟨as, eq, hA⟩ := id hR
    refine ⟨_, PSs.nox (pss_cons (ps_expr (pe_call CB.ok hr (by rfl) CB.g CB.kp CB.b .nil pass0 (pa_cons (pv 0) (pa_cons (pv 1) pa_nil))))
      (pss_cons (ps_set (i := 2) scStairs.nd rfl (.inl rfl) (pe_lst pa_nil))
      (pss_cons (ps_for PassesOwn.never rfl (pi_range1 (by rfl) mR (pa_cons (pe_ix ix_tup (pv 0) pe_int (fun _ _ => rfl)) pa_nil)) (pg_name (i := 3) scStairs.nd rfl (.inr rfl))
        (pss_one (ps_expr (pe_bm PySem.F.plainAttrs_list PySem.F.slot_list_append PySem.F.type_list_append mt_append (pv 2) (pa_cons
          (pe_lc (own := [("row", 4)]) (g := gName 4) (tt := tYes) (by rfl) scStairs.nd (pi_list (pv 1)) (blkOk_by (own := [("row", 4)]) (N := nStairs) (sc := defScope sStairs) (by decide +kernel)) (fun _ _ _ _ _ => pg_name (i := 4) scStairs.nd rfl (Or.inl rfl))
            (fun _ _ _ _ _ => pts_nil)
            (fun _ _ _ _ _ => pe_callB (call_lenK K) (by rfl) mL PySem.boot_len (pa_cons
              (pe_lc (own := [("height", 5)]) (g := gName 5) (by rfl) scStairs.nd (pi_listK K (pv 4)) (blkOk_by (own := [("height", 5)]) (N := nStairs) (sc := relS cRow (defScope sStairs)) (by decide +kernel)) (fun _ _ _ _ _ => pg_name (i := 5) scStairs.nd rfl (Or.inl rfl))
                (fun _ _ _ _ _ => pts_one (pt_cmpR op_gt (pv 5) (pv 3) (nomark _)))
                (fun _ _ _ _ _ => pv 5)) pa_nil))) pa_nil)))))
      (pss_one (ps_ret (pv 2)))))), ?_⟩
    refine ⟨_, rfl, _, rfl, p, q, a, b, c, P, rfl, hB, hR, hO, fun H1 s1 => ?_⟩
    refine ⟨Nat.zero_le _, fun o no => ?_⟩
    have s2 := s1.trans (same_upd (o := .lst []) no)
    have eo : (upd H1 o (.lst [])) o = some (.lst []) := upd_same
    have nH : H o = none := s1.free no
    generalize upd H1 o (.lst []) = H2 at s2 eo ⊢
    have hb6 := hB.b6
    have hc6 := hB.c6
    have ha6 := hB.a6
    refine ⟨_, rfl, p, _, _, _, rfl, rfl, SqT.of (s2 _ _ hB.at_), atI_nat (j := 2) rfl, (c : Int), rfl, by omega, by omega, for_range (lo := 0) (n := ((c : Int)).toNat)
      (fun i σ H' => ∃ y3, σ = [some (.ref p), some (.ref q), some (.ref o), y3, none, none] ∧ Same H H' ∧ Rows H' o (stairsL i P)) ⟨none, rfl, s2, [], eo, RowsAt.nil⟩ ?_ ?_⟩
    · rintro i σ H3 hi ⟨y3, rfl, sm, ts, eO, hT⟩
      have hi : i < c := by omega
      -- the new row
      refine ⟨_, rfl, .inl ⟨rfl, _, SqL.of eO⟩, _, rfl, q, rfl, ⟨_, SqL.of (sm _ _ eq)⟩, fun D nD => lc_list (K := K) (a := q) (xs := as.map V.ref)
        (fun m H' => Same H3 H' ∧ Ints H' D ((P.take m).map fun row => CPM.cnt row (0 + (i : Int)))) ⟨same_upd nD, upd_same⟩ (fun m H' _ hP => hP.1.seq (SqL.of (sm _ _ eq))) ?_ ?_⟩
      · rintro m x H4 hx ⟨s4, e4⟩
        obtain ⟨ra, row, rfl, g1, g2, g3⟩ := hA.get hx
        refine ⟨rfl, ?_⟩
        have er := SqL.of (K := K) (g3.same (sm.trans s4))
        have lr := (hO.2.1 row (List.mem_of_getElem? g2)).1
        -- the inner comprehension
        refine ⟨_, rfl, ra, rfl, ⟨_, er⟩, fun D2 nD2 => lc_list (K := K) (a := ra) (xs := row.map V.int)
          (fun j H' => Same H4 H' ∧ Ints H' D2 ((row.take j).filter fun x => decide (x > 0 + (i : Int)))) ⟨same_upd nD2, upd_same⟩ (fun j H' _ hP => hP.1.seq er) ?_ ?_⟩
        · rintro j x H5 hx5 ⟨s5, e5⟩
          obtain ⟨n, hn, rfl⟩ := get_map hx5
          refine ⟨rfl, ?_⟩
          refine ⟨_, rfl, _, rfl, n, 0 + (i : Int), rfl, rfl, _, rfl, ?_⟩
          by_cases hlt : 0 + (i : Int) < n
          · refine ifT (dT' hlt) ⟨_, rfl, _, e5, ?_, same_new s5 nD2, ?_⟩
            · rw [List.length_map]
              exact sz (Nat.le_trans (filt_len j) (by omega))
            · show (upd H5 D2 _) D2 = some (.lst (List.map V.int _))
              rw [upd_same, filt_yes hn (dT' hlt), List.map_append]; rfl
          · refine ifF (dF hlt) ⟨s5, ?_⟩
            rw [filt_no hn (dF hlt)]
            exact e5
        · rintro H5 ⟨s5, e5⟩
          refine ⟨D2, _, rfl, .inl (SqL.of e5), ?_⟩
          refine ⟨_, s5 _ _ e4, ?_, same_new (s4.trans s5) nD, ?_⟩
          · rw [List.length_map, List.length_map, List.length_take, hO.1]
            exact sz (by omega)
          · show (upd H5 D _) D = some (.lst (List.map V.int _))
            rw [upd_same, take_more g2, List.map_append, List.map_append]
            show some (HO.lst (_ ++ [V.int _])) = some (HO.lst (_ ++ [V.int _]))
            rw [List.length_map, List.length_map, List.take_length]
            rfl
      · rintro H4 ⟨s4, e4⟩
        rw [List.length_map, hA.1, List.take_length] at e4
        have nO : o ≠ D := ne_of_none eO nD
        refine ⟨o, _, _, rfl, rfl, s4 _ _ eO, ?_, some (.int (0 + (i : Int))), rfl, same_new (sm.trans s4) nH, ts ++ [D], ?_, ?_⟩
        · rw [List.length_map, hT.1]
          unfold stairsL
          rw [List.length_map, List.length_range]
          exact sz (by omega)
        · rw [upd_same, List.map_append]; rfl
        · have e0 : stairsL (i + 1) P = stairsL i P ++ [P.map fun row => CPM.cnt row (0 + (i : Int))] := by
            unfold stairsL
            rw [range_snoc]
            rw [show (0 : Int) + (i : Int) = (i : Int) by omega]
          rw [e0]
          have keep : ∀ z row, Ints H4 z row → z ≠ o → Ints (upd H4 o (.lst (ts.map V.ref ++ [.ref D]))) z row := fun z row h hz => by
            show (upd H4 o _) z = _
            rw [upd_ne hz]; exact h
          have hT4 := hT.same s4
          refine RowsAt.snoc ⟨hT4.1, fun m z row e1 e2 => keep z row (hT4.2 m z row e1 e2) ?_⟩ (keep _ _ e4 nO.symm)
          have h1 := hT.2 m z row e1 e2
          intro hz
          rw [hz] at h1
          have h1 : H3 o = some (.lst (row.map V.int)) := h1
          rw [eO] at h1
          have h1 := (HO.lst.inj (Option.some.inj h1))
          cases ts with
          | nil => simp at e1
          | cons t0 tr =>
            cases row with
            | nil => simp at h1
            | cons r0 rr => simp at h1
    · rintro σ H3 ⟨y3, rfl, sm, hT⟩
      exact ⟨_, rfl, k o H3 sm (by rw [show ((c : Int)).toNat = c by omega] at hT; exact hT)⟩
end
end CP

namespace CP
open PySem PySem.Spec PyProof.Rows L2 TL CPM
/-- a row is appended to a list of rows -/
theorem rows_push {H : Hp} {o D : Addr} {ts : List Addr} {T : List (List Int)} {row : List Int} (eO : H o = some (.lst (ts.map V.ref))) (hT : RowsAt H ts T) (hD : Ints H D row) (hne : D ≠ o) :
    Rows (upd H o (.lst (ts.map V.ref ++ [.ref D]))) o (T ++ [row]) := by
  have keep : ∀ z row, Ints H z row → z ≠ o → Ints (upd H o (.lst (ts.map V.ref ++ [.ref D]))) z row := fun z row h hz => by
    show (upd H o _) z = _
    rw [upd_ne hz]; exact h
  refine ⟨ts ++ [D], by rw [upd_same, List.map_append]; rfl, RowsAt.snoc ⟨hT.1, fun m z row e1 e2 => keep z row (hT.2 m z row e1 e2) ?_⟩ (keep _ _ hD hne)⟩
  have h1 := hT.2 m z row e1 e2
  intro hz
  rw [hz] at h1
  have h1 : H o = some (.lst (row.map V.int)) := h1
  rw [eO] at h1
  have h1 := (HO.lst.inj (Option.some.inj h1))
  cases ts with
  | nil => simp at e1
  | cons t0 tr =>
    cases row with
    | nil => simp at h1
    | cons r0 rr => simp at h1
theorem cnt_snoc (l : List Int) (x k : Int) : CPM.cnt (l ++ [x]) k = CPM.cnt l k + (if x > k then 1 else 0) := by
  unfold CPM.cnt
  rw [List.filter_append, List.length_append]
  by_cases h : x > k
  · simp [h]
  · simp [h]
section
variable {Pg : Program} {w : World} {K : PySem.W.Frag} {mg : Str → Option Value} {base : Heap} {f : Addr} {fd : FuncData}
/-- are_stairs -/
theorem ok_areStairs (F : FnP K "are_stairs" sAreStairs f fd) {fB : Addr} {fdB : FuncData} (CB : CalAt Pg w K mg base CX0 3 "need_box" ["box"] spNeedBox fB fdB)
    {fP : Addr} {fdP : FuncData} (CP : CalAt Pg w K mg base CX0 4 "is_pile" ["box", "thing"] spIsPile fP fdP) : FnOk Pg w K mg base CX0 5 f fd ["box", "thing"] spAreStairs := by
  refine F.ok scAreStairs (fun vs H Q E h => ?_) (fun cdv A outer s H vs Q E hr h => ?_)
  · obtain ⟨p, q, a, b, c, T, rfl, _⟩ := h
    rfl
  · obtain ⟨p, q, a, b, c, T, rfl, hB, hR, hO, k⟩ := h
    refine ⟨_, PSs.nox (pss_cons (ps_expr (pe_call CB.ok (hr.mono (by decide)) (by rfl) CB.g CB.kp CB.b .nil pass0 (pa_cons (pv 0) pa_nil)))
      (pss_one (ps_ret (pe_call CP.ok hr (by rfl) CP.g CP.kp CP.b .nil pass0 (pa_cons (pe_tup (pa_cons (pe_ix ix_tup (pv 0) pe_int (fun _ _ => rfl)) (pa_cons (pe_ix ix_tup (pv 0) pe_int (fun _ _ => rfl)) (pa_cons (pe_ix ix_tup (pv 0) pe_int (fun _ _ => rfl)) pa_nil)))) (pa_cons (pv 1) pa_nil)))))), ?_⟩
    refine ⟨_, rfl, p, a, b, c, rfl, hB, fun H1 s1 => ?_⟩
    have hT1 := SqT.of (K := K) (s1 _ _ hB.at_)
    refine ⟨_, rfl, p, _, _, _, rfl, rfl, hT1, atI_nat (j := 2) rfl, _, rfl, p, _, _, _, rfl, rfl, hT1, atI_nat (j := 0) rfl, _, rfl, p, _, _, _, rfl, rfl, hT1, atI_nat (j := 1) rfl, (by show 3 ≤ sizeLine; decide), fun t nt => ?_⟩
    have s2 := s1.trans (same_upd (o := .tup [.int (c : Int), .int (a : Int), .int (b : Int)]) nt)
    exact ⟨_, rfl, t, q, c, a, b, T, rfl, ⟨upd_same, hB.c1, hB.c6, hB.a1, hB.a6, hB.b1, hB.b6⟩, hR.same s2, hO, fun r H' sm hiff => k r H' (s2.trans sm) hiff⟩
/-- pile_of_stairs -/
theorem ok_pileOf (F : FnP K "pile_of_stairs" sPileOf f fd) (mL : mg "len" = none) (mR : mg "range" = none)
    {fB : Addr} {fdB : FuncData} (CB : CalAt Pg w K mg base CX0 5 "are_stairs" ["box", "thing"] spAreStairs fB fdB) : FnOk Pg w K mg base CX0 6 f fd ["box", "stairs"] spPileOf := by
  refine F.ok scPileOf (fun vs H Q E h => ?_) (fun cdv A outer s H vs Q E hr h => ?_)
  · obtain ⟨p, q, a, b, c, P, rfl, _⟩ := h
    rfl
  · obtain ⟨p, q, a, b, c, T, rfl, hB, hR, hO, k⟩ := h
    obtain ⟨as, eq, hA⟩ := id hR
    refine ⟨_, PSs.nox (pss_cons (ps_if (pt_not (pt_val (pe_call CB.ok hr (by rfl) CB.g CB.kp CB.b .nil pass0 (pa_cons (pv 0) (pa_cons (pv 1) pa_nil))))) pss_never pss_nil)
      (pss_cons (ps_set (i := 2) scPileOf.nd rfl (.inl rfl) (pe_lst pa_nil))
      (pss_cons (ps_for PassesOwn.never rfl (pi_range1 (by rfl) mR (pa_cons (pe_ix ix_tup (pv 0) pe_int (fun _ _ => rfl)) pa_nil)) (pg_name (i := 3) scPileOf.nd rfl (.inr rfl))
        (pss_one (ps_expr (pe_bm PySem.F.plainAttrs_list PySem.F.slot_list_append PySem.F.type_list_append mt_append (pv 2) (pa_cons
          (pe_lc (own := [("j", 4)]) (g := gName 4) (tt := tYes) (by rfl) scPileOf.nd (pi_range1 (by rfl) mR (pa_cons (pe_ix ix_tup (pv 0) pe_int (fun _ _ => rfl)) pa_nil)) (blkOk_by (own := [("j", 4)]) (N := nPileOf) (sc := defScope sPileOf) (by decide +kernel)) (fun _ _ _ _ _ => pg_name (i := 4) scPileOf.nd rfl (Or.inr rfl))
            (fun _ _ _ _ _ => pts_nil)
            (fun _ _ _ _ _ => pe_callB (call_lenK K) (by rfl) mL PySem.boot_len (pa_cons
              (pe_lc (own := [("one", 5)]) (g := gName 5) (by rfl) scPileOf.nd (pi_listK K (pv 1)) (blkOk_by (own := [("one", 5)]) (N := nPileOf) (sc := relS cJ (defScope sPileOf)) (by decide +kernel)) (fun _ _ _ _ _ => pg_name (i := 5) scPileOf.nd rfl (Or.inl rfl))
                (fun _ _ _ _ _ => pts_one (pt_cmpR op_gt (pe_ix (ix_listK K) (pv 5) (pv 3) (fun _ _ => rfl)) (pv 4) (nomark _)))
                (fun _ _ _ _ _ => pv 5)) pa_nil))) pa_nil)))))
      (pss_one (ps_ret (pv 2)))))), ?_⟩
    refine ⟨_, rfl, _, rfl, p, q, a, b, c, T, rfl, hB, hR, ⟨hO.1, hO.2.1⟩, fun r H1 s1 hiff => ⟨r, rfl, ifF (by rw [hiff.mpr hO]; rfl) ?_⟩⟩
    refine ⟨Nat.zero_le _, fun o no => ?_⟩
    have s2 := s1.trans (same_upd (o := .lst []) no)
    have eo : (upd H1 o (.lst [])) o = some (.lst []) := upd_same
    have nH : H o = none := s1.free no
    generalize upd H1 o (.lst []) = H2 at s2 eo ⊢
    have hb6 := hB.b6
    have hc6 := hB.c6
    have ha6 := hB.a6
    refine ⟨_, rfl, p, _, _, _, rfl, rfl, SqT.of (s2 _ _ hB.at_), atI_nat (j := 0) rfl, (a : Int), rfl, by omega, by omega, for_range (lo := 0) (n := ((a : Int)).toNat)
      (fun i σ H' => ∃ y3, σ = [some (.ref p), some (.ref q), some (.ref o), y3, none, none] ∧ Same H H' ∧ Rows H' o (pileL i b T)) ⟨none, rfl, s2, [], eo, RowsAt.nil⟩ ?_ ?_⟩
    · rintro i σ H3 hi ⟨y3, rfl, sm, ts, eO, hT⟩
      have hi : i < a := by omega
      refine ⟨_, rfl, .inl ⟨rfl, _, SqL.of eO⟩, _, rfl, p, _, _, _, rfl, rfl, SqT.of (sm _ _ hB.at_), atI_nat (j := 1) rfl, (b : Int), rfl, by omega, by omega, fun D nD => lc_range (lo := 0) (n := ((b : Int)).toNat)
        (fun m H' => Same H3 H' ∧ Ints H' D ((List.range m).map fun j : Nat => CPM.cnt (colL T i) (j : Int))) ⟨same_upd nD, upd_same⟩ ?_ ?_⟩
      · rintro j H4 hj ⟨s4, e4⟩
        have hj : j < b := by omega
        refine ⟨rfl, ?_⟩
        have eqS := SqL.of (K := K) (s4 _ _ (sm _ _ eq))
        refine ⟨_, rfl, q, rfl, ⟨_, eqS⟩, fun D2 nD2 => lc_list (K := K) (a := q) (xs := as.map V.ref)
          (fun m H' => Same H4 H' ∧ ∃ l', H' D2 = some (.lst l') ∧ l'.length ≤ m ∧ (l'.length : Int) = CPM.cnt (colL (T.take m) i) (j : Int)) ⟨same_upd nD2, [], upd_same, Nat.zero_le _, rfl⟩ (fun m H' _ hP => hP.1.seq eqS) ?_ ?_⟩
        · rintro m x H5 hx5 ⟨s5, l', e5, hl, hc⟩
          obtain ⟨ra, row, rfl, g1, g2, g3⟩ := hA.get hx5
          have lr := (hO.2.1 row (List.mem_of_getElem? g2)).1
          have hm : m < as.length := (List.getElem?_eq_some_iff.mp g1).1
          have hmc : as.length = c := by rw [hA.1, hO.1]
          refine ⟨rfl, ?_⟩
          have q1 : atI (row.map V.int) (0 + (i : Int)) = some (.int (row.getD i 0)) := by
            rw [show (0 : Int) + (i : Int) = (i : Int) by omega]
            refine atI_nat ?_
            rw [List.getElem?_map, getD_some (by omega)]; rfl
          have ec : colL (T.take (m + 1)) i = colL (T.take m) i ++ [row.getD i 0] := by
            unfold colL
            rw [take_more g2, List.map_append]; rfl
          refine ⟨_, rfl, _, rfl, ra, _, _, _, rfl, rfl, SqL.of (g3.same ((sm.trans s4).trans s5)), q1, _, rfl, row.getD i 0, 0 + (j : Int), rfl, rfl, _, rfl, ?_⟩
          by_cases hlt : 0 + (j : Int) < row.getD i 0
          · refine ifT (dT' hlt) ⟨_, rfl, _, e5, ?_, same_new s5 nD2, _, upd_same, ?_, ?_⟩
            · exact sz (by omega)
            · rw [List.length_append]
              exact Nat.succ_le_succ hl
            · rw [ec, cnt_snoc, List.length_append, if_pos (by omega)]
              show ((l'.length + 1 : Nat) : Int) = _
              omega
          · refine ifF (dF hlt) ⟨s5, l', e5, Nat.le_succ_of_le hl, ?_⟩
            rw [ec, cnt_snoc, if_neg (by omega)]
            omega
        · rintro H5 ⟨s5, l', e5, hl, hc⟩
          rw [List.length_map, show as.length = T.length from hA.1, List.take_length] at hc
          refine ⟨D2, _, rfl, .inl (SqL.of e5), ?_⟩
          refine ⟨_, s5 _ _ e4, ?_, same_new (s4.trans s5) nD, ?_⟩
          · rw [List.length_map, List.length_map, List.length_range]
            exact sz (by omega)
          · show (upd H5 D _) D = some (.lst (List.map V.int _))
            rw [upd_same, range_snoc, List.map_append, hc]
            rfl
      · rintro H4 ⟨s4, e4⟩
        rw [show ((b : Int)).toNat = b by omega] at e4
        refine ⟨o, _, _, rfl, rfl, s4 _ _ eO, ?_, some (.int (0 + (i : Int))), rfl, same_new (sm.trans s4) nH, ?_⟩
        · rw [List.length_map, hT.1]
          unfold pileL
          rw [List.length_map, List.length_range]
          exact sz (by omega)
        · have e0 : pileL (i + 1) b T = pileL i b T ++ [(List.range b).map fun j : Nat => CPM.cnt (colL T i) (j : Int)] := by
            unfold pileL
            rw [range_snoc]
          rw [e0]
          exact rows_push (s4 _ _ eO) (hT.same s4) e4 (ne_of_none eO nD).symm
    · rintro σ H3 ⟨y3, rfl, sm, hT⟩
      exact ⟨_, rfl, k o H3 sm (by rw [show ((a : Int)).toNat = a by omega] at hT; exact hT)⟩
end
end CP

namespace CP
open PySem PySem.Spec PyProof.Rows L2 TL CPM
theorem eR : (Str.ofString "r") = S [114] := by decide +kernel
theorem eD : (Str.ofString "d") = S [100] := by decide +kernel
theorem eE : (Str.ofString "") = S [] := by decide +kernel
theorem foldl_rep1 (c : Nat) : ∀ (n : Nat) (acc : Array Nat), (List.replicate n #[c]).foldl (· ++ ·) acc = acc ++ (List.replicate n c).toArray
  | 0, acc => by simp
  | n + 1, acc => by
    rw [List.replicate_succ, List.foldl_cons, foldl_rep1 c n]
    rw [List.replicate_succ]
    apply Array.ext'
    simp
theorem count_S (w : List Nat) (c : Nat) : Txt.count (S w) (S [c]) = (w.count c : Int) := by
  have e : Txt.count (S w) ⟨#[c]⟩ = PyProof.Rows.cnt c w := count_cnt (S w) c
  have h : ∀ l : List Nat, PyProof.Rows.cnt c l = (l.count c : Int) := by
    intro l
    induction l with
    | nil => rfl
    | cons d r ih =>
      rw [PyProof.Rows.cnt_cons, ih, List.count_cons]
      by_cases hd : d = c
      · subst hd; simp; omega
      · have hd' : ¬ c = d := fun z => hd z.symm
        simp [hd, hd']
  exact e.trans (h w)
section
variable {X : Cx}
theorem op_addS : OpR X (binaryOp .Add) (fun x y H Q => ∃ a b : List Nat, x = .str (S a) ∧ y = .str (S b) ∧ a.length + b.length ≤ 1000 ∧ Q (.str (S (a ++ b))) H) := by
  intro pins s σ H x y v u Q I rx ry h
  obtain ⟨a, b, rfl, rfl, hl, q⟩ := h
  refine op_add_str pins s σ H _ _ v u Q I rx ry ⟨S a, S b, rfl, rfl, by rw [S_len, S_len]; exact szl hl, ?_⟩
  rw [S_app]
  exact q
theorem op_mulS : OpR X (binaryOp .Mult) (fun x y H Q => ∃ (c : Nat) (n : Int), x = .str (S [c]) ∧ y = .int n ∧ -1000 ≤ n ∧ n ≤ 1000 ∧ Q (.str (S (List.replicate n.toNat c))) H) := by
  intro pins s σ H x y v u Q I rx ry h
  obtain ⟨c, n, rfl, rfl, h0, h1, q⟩ := h
  obtain ⟨t, rfl⟩ := rx
  obtain ⟨t', rfl⟩ := ry
  have len1 : (S [c]).length = 1 := rfl
  refine PySem.P.mul_str ?_ (fun g1 g2 => ?_) (fun g1 g2 => ?_) ?_
  · rw [decide_eq_false (by omega), decide_eq_false (by omega)]; rfl
  · rw [len1]
    have hn : 1 ≤ n := by omega
    have : (1 : Int) ≤ (2 ^ 63 - 1) / n := by
      rw [Int.le_ediv_iff_mul_le (by omega)]
      omega
    intro z
    have z : ((1 : Nat) : Int) > (2 ^ 63 - 1) / n := z
    omega
  · rw [len1]
    show decide (1 * n.toNat > sizeLine) = false
    rw [sizeLine_eq]
    exact decide_eq_false (by omega)
  · by_cases c1 : n < 1
    · rw [if_pos c1]
      have e : S (List.replicate n.toNat c) = Str.empty := by
        rw [show n.toNat = 0 by omega]; rfl
      rw [e] at q
      exact ⟨Nat.zero_le _, ⟨.str Str.empty, H, I.tok _, ⟨_, rfl⟩, q⟩⟩
    · rw [if_neg c1]
      by_cases c2 : (n == 1 || (S [c]).length == 0) = true
      · rw [if_pos c2]
        have hn : n = 1 := by
          rw [len1] at c2
          simpa using c2
        subst hn
        exact ⟨.str (S [c]), H, I, ⟨_, rfl⟩, q⟩
      · rw [if_neg c2]
        have e : (⟨(List.replicate n.toNat (S [c]).cps).foldl (· ++ ·) #[]⟩ : Str) = S (List.replicate n.toNat c) := by
          show (⟨(List.replicate n.toNat #[c]).foldl (· ++ ·) #[]⟩ : Str) = _
          rw [foldl_rep1]
          congr 1
          simp
        rw [e]
        refine ⟨?_, ⟨.str _, H, I.tok _, ⟨_, rfl⟩, q⟩⟩
        rw [S_len, List.length_replicate]
        exact szl (by omega)
theorem mt_countS : MtR X "str.count" (fun x xs H Q => ∃ (w : List Nat) (c : Nat), x = .str (S w) ∧ xs = [.str (S [c])] ∧ Q (.int (w.count c : Int)) H) := by
  intro pins s σ H x xs v us Q I rx rs h
  obtain ⟨w, c, rfl, rfl, q⟩ := h
  refine mt_count pins s σ H _ _ v us Q I rx rs ⟨S w, S [c], rfl, rfl, ?_⟩
  rw [count_S]
  exact q
end
/-- over a text's signs -/
theorem for_str {w : List Nat} {g : TG} {tb : TS} {D : Ends} {σ : L2.St} {H : Hp} (Pv : Nat → L2.St → Hp → Prop) (h0 : Pv 0 σ H)
    (hs : ∀ i c σ H, w[i]? = some c → Pv i σ H → g (.str (S [c])) σ H fun σ2 H2 => tb { D with nx := Pv (i + 1), ct := Pv (i + 1), bk := D.nx } σ2 H2) (hd : ∀ σ H, Pv w.length σ H → D.nx σ H) :
    ∃ W : Nat → Nat → L2.St → Hp → Prop, (∃ m, W 0 m σ H) ∧ ∀ i m σ H, W i m σ H →
      ((Its (S w)).stop i H ∧ D.nx σ H) ∨ ((Its (S w)).go i H ∧ ∃ N : L2.St → Hp → Prop, (∀ σ' H', N σ' H' → ∃ m', m' < m ∧ W (i + 1) m' σ' H') ∧ ∀ x H', (Its (S w)).yld i H x H' → g x σ H' fun σ2 H2 => tb { D with nx := N, ct := N, bk := D.nx } σ2 H2) := by
  refine ⟨fun i m σ H => m = w.length - i ∧ i ≤ w.length ∧ Pv i σ H, ⟨w.length, by simp, Nat.zero_le _, h0⟩, ?_⟩
  rintro i m σ H ⟨rfl, hi, p⟩
  by_cases hlt : i < w.length
  · refine .inr ⟨by show i < (S w).cps.size; simpa using hlt, Pv (i + 1), fun σ' H' p' => ⟨w.length - (i + 1), by omega, rfl, hlt, p'⟩, fun x H' y => ?_⟩
    obtain ⟨rfl, c, hc, rfl⟩ := y
    exact hs i c σ _ (by simpa using hc) p
  · have e : i = w.length := by omega
    subst e
    exact .inl ⟨by show (S w).cps.size ≤ w.length; simp, hd σ H p⟩
abbrev sAlong : Stmt := top 18
abbrev sWays : Stmt := top 19
abbrev sStairBy : Stmt := top 20
abbrev sIsWay : Stmt := top 21
theorem scAlong : FnScope ["staircase", "columns", "found", "ahead", "many"] ["staircase", "columns"] (defScope sAlong) := ⟨rfl, rfl, rfl, by decide +kernel, rfl, by decide +kernel, by decide +kernel⟩
theorem scWays : FnScope ["box", "pile", "staircase"] ["box", "pile"] (defScope sWays) := ⟨rfl, rfl, rfl, by decide +kernel, rfl, by decide +kernel, by decide +kernel⟩
theorem scStairBy : FnScope ["way", "found", "many", "sign"] ["way"] (defScope sStairBy) := ⟨rfl, rfl, rfl, by decide +kernel, rfl, by decide +kernel, by decide +kernel⟩
theorem scIsWay : FnScope ["box", "thing"] ["box", "thing"] (defScope sIsWay) := ⟨rfl, rfl, rfl, by decide +kernel, rfl, by decide +kernel, by decide +kernel⟩
def spAlong : Sp := fun vs H Q _ => ∃ (s : Addr) (a b : Nat) (st : List Int), vs = [.ref s, .int (b : Int)] ∧ Ints H s st ∧ RowOk a b st ∧ a ≤ 6 ∧ b ≤ 6 ∧ ∀ H', Same H H' → Q (vT (wayL b st)) H'
def spWays : Sp := fun vs H Q _ => ∃ (p q : Addr) (a b c : Nat) (P : List (List Int)), vs = [.ref p, .ref q] ∧ Bx H p a b c ∧ Rows H q P ∧ PileOk a b c P ∧ ∀ r H', Same H H' → Txts H' r (waysL b c P) → Q (.ref r) H'
def spStairBy : Sp := fun vs H Q _ => ∃ w : List Nat, vs = [vT w] ∧ w.length ≤ 12 ∧ ∀ r H', Same H H' → Ints H' r (stair w) → Q (.ref r) H'
def spIsWay : Sp := fun vs H Q _ => ∃ (p : Addr) (a b c : Nat) (w : List Nat), vs = [.ref p, vT w] ∧ Bx H p a b c ∧ WayOk a b w ∧ ∀ H', Same H H' → Q (.bl true) H'
section
variable {Pg : Program} {w : World} {K : PySem.W.Frag} {mg : Str → Option Value} {base : Heap} {f : Addr} {fd : FuncData}
theorem ok_along (F : FnP K "way_along" sAlong f fd) : FnOk Pg w K mg base CX0 1 f fd ["staircase", "columns"] spAlong := by
  refine F.ok scAlong (fun vs H Q E h => ?_) (fun cdv A outer s H vs Q E hr h => ?_)
  · obtain ⟨s, a, b, st, rfl, _⟩ := h
    rfl
  · obtain ⟨s, a, b, st, rfl, hI, hR, ha, hb, k⟩ := h
    refine ⟨_, PSs.nox (pss_cons (ps_set (i := 2) scAlong.nd rfl (.inl rfl) pe_str)
      (pss_cons (ps_set (i := 3) scAlong.nd rfl (.inl rfl) pe_int)
      (pss_cons (ps_for PassesOwn.never rfl (pi_list (pe_revL (pv 0))) (pg_name (i := 4) scAlong.nd rfl (.inl rfl))
        (pss_cons (ps_set (i := 2) scAlong.nd rfl (.inl rfl) (pe_op op_addS (pe_op op_addS (pv 2) (pe_op op_mulS pe_str (pe_op op_sub (pv 4) (pv 3)))) pe_str))
        (pss_one (ps_set (i := 3) scAlong.nd rfl (.inl rfl) (pv 4)))))
      (pss_one (ps_ret (pe_op op_addS (pv 2) (pe_op op_mulS pe_str (pe_op op_sub (pv 1) (pv 3))))))))), ?_⟩
    obtain ⟨hbd, hrise⟩ := rev_row hR
    have hlen : (wayL b st).length = a + b := (way_ok hR).1
    have hms : st.reverse.length = a := by rw [List.length_reverse]; exact hR.1
    refine ⟨_, rfl, s, _, rfl, SqL.of hI, fun p np => ?_⟩
    have s1 : Same H (upd H p (.lst (st.map V.int).reverse)) := same_upd np
    have ep : Ints (upd H p (.lst (st.map V.int).reverse)) p st.reverse := by
      show (upd H p _) p = _
      rw [upd_same, List.map_reverse]
    generalize upd H p (.lst (st.map V.int).reverse) = H1 at s1 ep ⊢
    generalize hmm : st.reverse = ms at hbd hrise hms ep
    refine ⟨p, rfl, ⟨_, SqL.of ep⟩, for_list (K := K) (a := p) (xs := ms.map V.int)
      (fun i σ H' => ∃ wi ai y4, σ = [some (.ref s), some (.int (b : Int)), some (vT wi), some (.int ai), y4] ∧ H' = H1 ∧ 0 ≤ ai ∧ ai ≤ (b : Int) ∧ wi ++ along ai b (ms.drop i) = along 0 b ms)
      ⟨[], 0, none, ?_, rfl, Int.le_refl _, Int.natCast_nonneg _, rfl⟩ (fun i σ H' _ ⟨_, _, _, _, e, _⟩ => by rw [e]; exact SqL.of ep) ?_ ?_⟩
    · show _ = [some (V.ref s), some (.int (b : Int)), some (.str (S [])), some (.int 0), none]
      rw [← eE]; rfl
    · rintro i x σ H' hx ⟨wi, ai, y4, rfl, rfl, h0, h1, hw⟩
      obtain ⟨m, hm, rfl⟩ := get_map hx
      have hmb := hbd m (List.mem_of_getElem? hm)
      have hi : i < ms.length := (List.getElem?_eq_some_iff.mp hm).1
      have ed : ms.drop i = m :: ms.drop (i + 1) := by
        rw [List.drop_eq_getElem_cons hi, (List.getElem?_eq_some_iff.mp hm).2]
      have hl12 : wi.length + (along ai b (ms.drop i)).length = a + b := by
        rw [← List.length_append, hw, ← hmm]; exact hlen
      rw [ed] at hw hl12
      have hl2 : wi.length ≤ a + b := by omega
      refine ⟨_, rfl, _, rfl, _, rfl, m, ai, rfl, rfl, 114, m - ai, congrArg V.str eR, rfl, by omega, by omega, wi, _, rfl, rfl, by rw [List.length_replicate]; omega, _, [100], rfl, congrArg V.str eD, ?_, ?_⟩
      · rw [List.length_append, List.length_replicate]
        show wi.length + (m - ai).toNat + 1 ≤ 1000
        omega
      · refine ⟨_, rfl, _, m, _, rfl, rfl, hmb.1, hmb.2, ?_⟩
        rw [← hw]
        show wi ++ List.replicate (m - ai).toNat 114 ++ [100] ++ along m b (ms.drop (i + 1)) = wi ++ (List.replicate (m - ai).toNat 114 ++ 100 :: along m b (ms.drop (i + 1)))
        simp
    · rintro σ H' ⟨wi, ai, y4, rfl, rfl, h0, h1, hw⟩
      rw [List.length_map, List.drop_length] at hw
      have hw2 : wi ++ List.replicate ((b : Int) - ai).toNat 114 = wayL b st := by
        unfold wayL
        rw [hmm, ← hw]; rfl
      have hl12 : wi.length + ((b : Int) - ai).toNat = a + b := by
        have := congrArg List.length hw2
        rw [List.length_append, List.length_replicate, hlen] at this
        exact this
      refine ⟨_, rfl, _, rfl, _, rfl, (b : Int), ai, rfl, rfl, 114, (b : Int) - ai, congrArg V.str eR, rfl, by omega, by omega, wi, _, rfl, rfl, by rw [List.length_replicate]; omega, ?_⟩
      rw [hw2]
      exact k _ s1
/-- ways_of -/
theorem ok_ways (F : FnP K "ways_of" sWays f fd) {fB : Addr} {fdB : FuncData} (CB : CalAt Pg w K mg base CX0 6 "stairs_of" ["box", "pile"] spStairs fB fdB)
    {fA : Addr} {fdA : FuncData} (CA : CalAt Pg w K mg base CX0 1 "way_along" ["staircase", "columns"] spAlong fA fdA) : FnOk Pg w K mg base CX0 7 f fd ["box", "pile"] spWays := by
  refine F.ok scWays (fun vs H Q E h => ?_) (fun cdv A outer s H vs Q E hr h => ?_)
  · obtain ⟨p, q, a, b, c, P, rfl, _⟩ := h
    rfl
  · obtain ⟨p, q, a, b, c, P, rfl, hB, hR, hO, k⟩ := h
    have hr1 := hr.mono (show 1 ≤ 6 by decide)
    refine ⟨_, PSs.nox (pss_one (ps_ret (pe_lc (own := [("staircase", 2)]) (g := gName 2) (tt := tYes) (by rfl) scWays.nd (pi_list (pe_call CB.ok hr (by rfl) CB.g CB.kp CB.b .nil pass0 (pa_cons (pv 0) (pa_cons (pv 1) pa_nil)))) (blkOk_by (own := [("staircase", 2)]) (N := ["box", "pile", "staircase"]) (sc := defScope sWays) (by decide +kernel)) (fun _ _ _ _ _ => pg_name (i := 2) scWays.nd rfl (Or.inl rfl))
      (fun _ _ _ _ _ => pts_nil)
      (fun _ _ _ _ _ => pe_call CA.ok hr1 (by rfl) CA.g CA.kp CA.b .nil pass0 (pa_cons (pv 2) (pa_cons (pe_ix (ix_tupK K) (pv 0) pe_int (fun _ _ => rfl)) pa_nil)))))), ?_⟩
    refine ⟨_, rfl, _, rfl, p, q, a, b, c, P, rfl, hB, hR, hO, fun r H1 s1 hT => ?_⟩
    obtain ⟨ts, et, hA⟩ := hT
    have hS := stairs_ok hO
    have ha6 := hB.a6
    have hb6 := hB.b6
    have hc6 := hB.c6
    refine ⟨r, rfl, ⟨_, SqL.of et⟩, fun D nD => lc_list (K := K) (a := r) (xs := ts.map V.ref) (fun i H' => Same H1 H' ∧ Txts H' D (((stairsL c P).take i).map (wayL b)))
      ⟨same_upd nD, upd_same⟩ (fun i H' _ hP => hP.1.seq (SqL.of et)) ?_ ?_⟩
    · rintro i x H2 hx ⟨s2, e2⟩
      obtain ⟨ra, row, rfl, g1, g2, g3⟩ := hA.get hx
      refine ⟨rfl, ?_⟩
      refine ⟨_, rfl, _, rfl, p, _, _, _, rfl, rfl, SqT.of ((s1.trans s2) _ _ hB.at_), atI_nat (j := 1) rfl, ra, a, b, row, rfl, g3.same s2, hS.2.1 row (List.mem_of_getElem? g2), ha6, hb6, fun H3 s3 => ?_⟩
      refine ⟨_, s3 _ _ e2, ?_, same_new (s2.trans s3) nD, ?_⟩
      · rw [List.length_map, List.length_map, List.length_take, hS.1]
        exact sz (by omega)
      · show (upd H3 D _) D = some (.lst (List.map vT _))
        rw [upd_same, take_more g2, List.map_append, List.map_append]
        rfl
    · rintro H2 ⟨s2, e2⟩
      rw [List.length_map, hA.1, List.take_length] at e2
      exact k D H2 (s1.trans s2) e2
/-- staircase_by -/
theorem ok_stairBy (F : FnP K "staircase_by" sStairBy f fd) : FnOk Pg w K mg base CX0 1 f fd ["way"] spStairBy := by
  refine F.ok scStairBy (fun vs H Q E h => ?_) (fun cdv A outer s H vs Q E hr h => ?_)
  · obtain ⟨w, rfl, _⟩ := h
    rfl
  · obtain ⟨w, rfl, hw12, k⟩ := h
    refine ⟨_, PSs.nox (pss_cons (ps_set (i := 1) scStairBy.nd rfl (.inl rfl) (pe_lst pa_nil))
      (pss_cons (ps_set (i := 2) scStairBy.nd rfl (.inl rfl) pe_int)
      (pss_cons (ps_for PassesOwn.never rfl (pi_str (pv 0)) (pg_name (i := 3) scStairBy.nd rfl (.inl rfl))
        (pss_one (ps_if (pt_cmpR op_eq (pv 3) pe_str (nomark _)) (pss_one (ps_aug (i := 2) scStairBy.nd rfl (.inl rfl) pe_int ip_add))
          (pss_one (ps_expr (pe_bm PySem.F.plainAttrs_list PySem.F.slot_list_append PySem.F.type_list_append mt_append (pv 1) (pa_cons (pv 2) pa_nil)))))))
      (pss_one (ps_ret (pe_revL (pv 1))))))), ?_⟩
    refine ⟨Nat.zero_le _, fun o no => ?_⟩
    have s1 : Same H (upd H o (.lst [])) := same_upd no
    refine ⟨_, rfl, S w, rfl, for_str (w := w) (fun i σ H' => ∃ (m : Int) (fs : List Int) (y3 : Option V), σ = [some (vT w), some (.ref o), some (.int m), y3] ∧ Same H H' ∧ Ints H' o fs ∧ fs.length ≤ i ∧ fs ++ marks m (w.drop i) = marks 0 w)
      ⟨0, [], none, rfl, s1, upd_same, Nat.le_refl _, rfl⟩ ?_ ?_⟩
    · rintro i c σ H' hc ⟨m, fs, y3, rfl, sm, ef, hl, hm⟩
      have hi : i < w.length := (List.getElem?_eq_some_iff.mp hc).1
      have ed : w.drop i = c :: w.drop (i + 1) := by
        rw [List.drop_eq_getElem_cons hi, (List.getElem?_eq_some_iff.mp hc).2]
      rw [ed] at hm
      refine ⟨_, rfl, rfl, _, rfl, ?_⟩
      by_cases h114 : c = 114
      · refine ifT (dT' (by rw [h114, eR])) ⟨_, rfl, m, 1, rfl, rfl, m + 1, fs, _, rfl, sm, ef, Nat.le_succ_of_le hl, ?_⟩
        rw [← hm]
        show _ = fs ++ (if c = 114 then marks (m + 1) (w.drop (i + 1)) else m :: marks m (w.drop (i + 1)))
        rw [if_pos h114]
      · refine ifF (dF fun z => h114 ?_) ⟨_, rfl, .inl ⟨rfl, _, SqL.of ef⟩, _, rfl, o, _, _, rfl, rfl, ef, ?_, m, fs ++ [m], _, rfl, same_new sm no, ?_, ?_, ?_⟩
        · rw [eR] at z
          have := S_inj (V.str.inj z)
          simpa using this
        · rw [List.length_map]
          exact sz (by omega)
        · show (upd H' o _) o = some (.lst (List.map V.int _))
          rw [upd_same, List.map_append]; rfl
        · rw [List.length_append]
          exact Nat.succ_le_succ hl
        · rw [← hm]
          show _ = fs ++ (if c = 114 then marks (m + 1) (w.drop (i + 1)) else m :: marks m (w.drop (i + 1)))
          rw [if_neg h114, List.append_assoc]; rfl
    · rintro σ H' ⟨m, fs, y3, rfl, sm, ef, hl, hm⟩
      rw [List.drop_length] at hm
      have hf : fs = marks 0 w := by
        rw [← hm]
        show fs = fs ++ []
        rw [List.append_nil]
      refine ⟨_, rfl, o, _, rfl, SqL.of ef, fun p np => ?_⟩
      refine k p _ (sm.trans (same_upd np)) ?_
      show (upd H' p _) p = some (.lst (List.map V.int (stair w)))
      rw [upd_same]
      unfold stair
      rw [List.map_reverse, hf]
/-- is_way_text -/
theorem ok_isWay (F : FnP K "is_way_text" sIsWay f fd) (mI : mg "isinstance" = none) (mS : mg "str" = none) (mL : mg "len" = none) : FnOk Pg w K mg base CX0 1 f fd ["box", "thing"] spIsWay := by
  refine F.ok scIsWay (fun vs H Q E h => ?_) (fun cdv A outer s H vs Q E hr h => ?_)
  · obtain ⟨p, a, b, c, w, rfl, _⟩ := h
    rfl
  · obtain ⟨p, a, b, c, w, rfl, hB, hW, k⟩ := h
    have hT := SqT.of (K := K) hB.at_
    have ha6 := hB.a6
    have hb6 := hB.b6
    refine ⟨_, PSs.nox (pss_cons (ps_if (PW.pt (pw_or (pt_not (pt_val (pe_callB call_isi (by rfl) mI (by decide +kernel) (pa_cons (pv 1) (pa_cons (pe_bltn (v := .ty "str") (by rfl) mS (by decide +kernel) rfl) pa_nil)))))
        (pw_or1 (pt_cmpR op_ne (pe_callB call_len_str (by rfl) mL PySem.boot_len (pa_cons (pv 1) pa_nil)) (pe_op op_add (pe_ix ix_tup (pv 0) pe_int (fun _ _ => rfl)) (pe_ix ix_tup (pv 0) pe_int (fun _ _ => rfl))) (nomark _))))) (pss_one (ps_ret pe_bl)) pss_nil)
      (pss_one (ps_ret (pe_and (pe_cmpR op_eq (pe_bm PySem.F.plainAttrs_str PySem.F.slot_str_count PySem.F.type_str_count mt_countS (pv 1) (pa_cons pe_str pa_nil)) (pe_ix ix_tup (pv 0) pe_int (fun _ _ => rfl)) (nomark _))
        (pe_one (pe_cmpR op_eq (pe_bm PySem.F.plainAttrs_str PySem.F.slot_str_count PySem.F.type_str_count mt_countS (pv 1) (pa_cons pe_str pa_nil)) (pe_ix ix_tup (pv 0) pe_int (fun _ _ => rfl)) (nomark _))))))), ?_⟩
    refine ⟨_, rfl, _, _, _, _, _, rfl, .ty _, .base (.str _), kStr, true, rfl, iteF ?_⟩
    refine ⟨_, rfl, S w, rfl, by rw [S_len, hW.1]; exact szl (by omega), _, rfl, p, _, _, _, rfl, rfl, hT, atI_nat (j := 0) rfl, _, rfl, p, _, _, _, rfl, rfl, hT, atI_nat (j := 1) rfl, _, _, rfl, rfl, rfl, _, rfl, ifF ?_ ?_⟩
    · rw [S_len, hW.1]
      rw [decide_eq_true (by rw [Int.natCast_add])]; rfl
    · refine ⟨_, rfl, rfl, w, 100, rfl, congrArg (fun z => [V.str z]) eD, _, rfl, p, _, _, _, rfl, rfl, hT, atI_nat (j := 0) rfl, rfl, _, rfl, ifT (dT' (by rw [hW.2.1])) ?_⟩
      refine ⟨_, rfl, rfl, w, 114, rfl, congrArg (fun z => [V.str z]) eR, _, rfl, p, _, _, _, rfl, rfl, hT, atI_nat (j := 1) rfl, rfl, ?_⟩
      rw [hW.2.2, decide_eq_true rfl]
      exact k H (Same.refl _)
end
end CP

namespace CP
open PySem PySem.Spec PyProof.Rows L2 TL CPM
abbrev sAreWays : Stmt := top 22
abbrev sPileWays : Stmt := top 23
abbrev nAreWays : List Str := ["box", "thing", "one", "way"]
theorem scAreWays : FnScope nAreWays ["box", "thing"] (defScope sAreWays) := ⟨rfl, rfl, rfl, by decide +kernel, rfl, by decide +kernel, by decide +kernel⟩
theorem scPileWays : FnScope ["box", "ways", "way"] ["box", "ways"] (defScope sPileWays) := ⟨rfl, rfl, rfl, by decide +kernel, rfl, by decide +kernel, by decide +kernel⟩
def spAreWays : Sp := fun vs H Q _ => ∃ (p q : Addr) (a b c : Nat) (ws : List (List Nat)), vs = [.ref p, .ref q] ∧ Bx H p a b c ∧ Txts H q ws ∧ WaysOk a b c ws ∧ ∀ (r : Bool) H', Same H H' → (r = true ↔ PileOk c a b (ws.map stair)) → Q (.bl r) H'
/-- what the top has left of an own exception's class at C -/
structure ExcT (K : PySem.W.Frag) (mg : Str → Option Value) (x : Str) (C : Addr) : Prop where
  g : mg x = some (.ref C)
  xI : PySem.W.excIn K C [.type "ValueError", .type "Exception", .type "BaseException", .type "object"] "ValueError.__new__" = true
  kp : PySem.W.keepIn K (.ref C) = true
  sub : PySem.W.subIn K (.ref C) (.type "BaseException") = some true
  ty : PySem.W.typeIn K (.ref C) = some (.type "type")
  self : PySem.W.exmOne K (.ref C) (.ref C) = some true
def spPileWays (C : Addr) : Sp := fun vs H Q E => ∃ (p q : Addr) (a b c : Nat) (ws : List (List Nat)), vs = [.ref p, .ref q] ∧ Bx H p a b c ∧ Txts H q ws ∧ WaysOk a b c ws ∧
  (PileOk c a b (ws.map stair) → ∀ r H', Same H H' → Rows H' r (pileL a b (ws.map stair)) → Q (.ref r) H') ∧ (¬ PileOk c a b (ws.map stair) → ∀ H', Same H H' → E (.ref C) none H')
theorem waysOk_len {a b c : Nat} {ws : List (List Nat)} (h : WaysOk a b c ws) (ha : a ≤ 6) (hb : b ≤ 6) {w : List Nat} (hw : w ∈ ws) : w.length ≤ 12 := by
  have := (h.2 w hw).1
  omega
theorem ne_rows {H : Hp} {D r : Addr} {ts : List Addr} {row : List Int} (e1 : H D = some (.lst (ts.map V.ref))) (e2 : Ints H r row) (h : row ≠ []) : r ≠ D := by
  intro z
  subst z
  have e2 : H r = some (.lst (row.map V.int)) := e2
  rw [e1] at e2
  have h1 := (HO.lst.inj (Option.some.inj e2))
  cases row with
  | nil => exact h rfl
  | cons x rr =>
    cases ts with
    | nil => simp at h1
    | cons t tr => simp at h1
theorem stairs_rowsOk {a b c : Nat} {ws : List (List Nat)} (h : WaysOk a b c ws) : RowsOk c a b (ws.map stair) :=
  ⟨by rw [List.length_map]; exact h.1, fun row hr => by
    obtain ⟨w, hw, rfl⟩ := List.mem_map.mp hr
    exact stair_row (h.2 w hw)⟩
section
variable {Pg : Program} {w : World} {K : PySem.W.Frag} {mg : Str → Option Value} {base : Heap} {f : Addr} {fd : FuncData}
/-- one turn of [staircase_by(way) for way in ways] -/
theorem stairs_turn {a b c : Nat} {ws : List (List Nat)} {H2 H3 : Hp} {D r : Addr} {i : Nat} {x : List Nat} (hW : WaysOk a b c ws) (ha : 1 ≤ a) (hx : ws[i]? = some x) (hR : Rows H2 D ((ws.take i).map stair)) (s3 : Same H2 H3) (hr : Ints H3 r (stair x)) :
    ∃ acc, H3 D = some (.lst acc) ∧ acc.length ≤ i ∧ Rows (upd H3 D (.lst (acc ++ [.ref r]))) D ((ws.take (i + 1)).map stair) := by
  obtain ⟨ts, et, hA⟩ := hR
  refine ⟨ts.map V.ref, s3 _ _ et, ?_, ?_⟩
  · rw [List.length_map, hA.1, List.length_map, List.length_take]
    exact Nat.min_le_left _ _
  · rw [take_more hx, List.map_append]
    refine rows_push (s3 _ _ et) (hA.same s3) hr (ne_rows (s3 _ _ et) hr ?_)
    have := (stair_row (hW.2 x (List.mem_of_getElem? hx))).1
    intro z
    rw [z] at this
    simp at this
    omega
/-- are_ways -/
theorem ok_areWays (F : FnP K "are_ways" sAreWays f fd) (mI : mg "isinstance" = none) (mT : mg "list" = none)
    {fB : Addr} {fdB : FuncData} (CB : CalAt Pg w K mg base CX0 3 "need_box" ["box"] spNeedBox fB fdB) {fW : Addr} {fdW : FuncData} (CW : CalAt Pg w K mg base CX0 1 "is_way_text" ["box", "thing"] spIsWay fW fdW)
    {fS : Addr} {fdS : FuncData} (CS : CalAt Pg w K mg base CX0 1 "staircase_by" ["way"] spStairBy fS fdS) {fA : Addr} {fdA : FuncData} (CA : CalAt Pg w K mg base CX0 5 "are_stairs" ["box", "thing"] spAreStairs fA fdA) : FnOk Pg w K mg base CX0 6 f fd ["box", "thing"] spAreWays := by
  refine F.ok scAreWays (fun vs H Q E h => ?_) (fun cdv A outer s H vs Q E hr h => ?_)
  · obtain ⟨p, q, a, b, c, P, rfl, _⟩ := h
    rfl
  · obtain ⟨p, q, a, b, c, ws, rfl, hB, hT, hW, k⟩ := h
    have hr1 := hr.mono (show 1 ≤ 5 by decide)
    refine ⟨_, PSs.nox (pss_cons (ps_expr (pe_call CB.ok (hr.mono (by decide)) (by rfl) CB.g CB.kp CB.b .nil pass0 (pa_cons (pv 0) pa_nil)))
      (pss_cons (ps_if (PW.pt (pw_or (pt_not (pt_val (pe_callB call_isi (by rfl) mI (by decide +kernel) (pa_cons (pv 1) (pa_cons (pe_bltn (v := .ty "list") (by rfl) mT (by decide +kernel) rfl) pa_nil)))))
        (pw_or1 (pt_cmpR (op_neD hr.units)
          (pe_lc (own := [("one", 2)]) (g := gName 2) (by rfl) scAreWays.nd (pi_list (pv 1)) (blkOk_by (own := [("one", 2)]) (N := nAreWays) (sc := defScope sAreWays) (by decide +kernel)) (fun _ _ _ _ _ => pg_name (i := 2) scAreWays.nd rfl (Or.inl rfl))
            (fun _ _ _ _ _ => pts_one (pt_not (pt_val (pe_call CW.ok hr1 (by rfl) CW.g CW.kp CW.b .nil pass0 (pa_cons (pv 0) (pa_cons (pv 2) pa_nil))))))
            (fun _ _ _ _ _ => pv 2))
          (pe_lst pa_nil) (nomark _))))) (pss_one (ps_ret pe_bl)) pss_nil)
      (pss_one (ps_ret (pe_call CA.ok hr (by rfl) CA.g CA.kp CA.b .nil pass0 (pa_cons (pv 0) (pa_cons
        (pe_lc (own := [("way", 3)]) (g := gName 3) (tt := tYes) (by rfl) scAreWays.nd (pi_list (pv 1)) (blkOk_by (own := [("way", 3)]) (N := nAreWays) (sc := defScope sAreWays) (by decide +kernel)) (fun _ _ _ _ _ => pg_name (i := 3) scAreWays.nd rfl (Or.inl rfl))
            (fun _ _ _ _ _ => pts_nil)
            (fun _ _ _ _ _ => pe_call CS.ok hr1 (by rfl) CS.g CS.kp CS.b .nil pass0 (pa_cons (pv 3) pa_nil))) pa_nil))))))), ?_⟩
    refine ⟨_, rfl, p, a, b, c, rfl, hB, fun H1 s1 => ?_⟩
    have e1 := hT.same s1
    have hL1 := SqL.of (K := K) e1
    refine ⟨_, rfl, _, _, _, _, _, rfl, .ty _, .base (.lst e1), kList, true, rfl, iteF ?_⟩
    refine ⟨_, rfl, q, rfl, ⟨_, hL1⟩, fun D hD => lc_list (K := K) (a := q) (xs := ws.map vT) (fun i H' => Same H1 H' ∧ H' D = some (.lst []))
      ⟨same_upd hD, upd_same⟩ (fun i H' _ hP => hP.1.seq hL1) ?_ ?_⟩
    · rintro i x H' hx ⟨s2, eD⟩
      obtain ⟨z, hz, rfl⟩ := get_map hx
      refine ⟨rfl, ?_⟩
      exact ⟨_, rfl, _, rfl, p, a, b, c, z, rfl, hB.same (s1.trans s2), hW.2 z (List.mem_of_getElem? hz), fun H2 s3 => ⟨true, rfl, iteF ⟨s2.trans s3, s3 _ _ eD⟩⟩⟩
    · rintro H2 ⟨s2, eD⟩
      refine ⟨Nat.zero_le _, fun o no => ?_⟩
      have eD' : (upd H2 o (.lst [])) D = some (.lst []) := by rw [upd_ne (ne_of_none eD no)]; exact eD
      refine ⟨_, _, dp_nil eD', dp_nil upd_same, sh_nil, sh_nil, _, rfl, iteF ?_⟩
      have s3 := (s1.trans s2).trans (same_upd (o := .lst []) no)
      generalize upd H2 o (.lst []) = H3 at s3 ⊢
      have hL3 := SqL.of (K := K) (hT.same s3)
      refine ⟨_, rfl, _, rfl, q, rfl, ⟨_, hL3⟩, fun D2 nD2 => lc_list (K := K) (a := q) (xs := ws.map vT) (fun i H' => Same H3 H' ∧ Rows H' D2 ((ws.take i).map stair))
        ⟨same_upd nD2, [], upd_same, RowsAt.nil⟩ (fun i H' _ hP => hP.1.seq hL3) ?_ ?_⟩
      · rintro i x H' hx ⟨s4, hR⟩
        obtain ⟨z, hz, rfl⟩ := get_map hx
        refine ⟨rfl, ?_⟩
        refine ⟨_, rfl, z, rfl, waysOk_len hW hB.a6 hB.b6 (List.mem_of_getElem? hz), fun r H5 s5 hI => ?_⟩
        obtain ⟨acc, t1, t2, t3⟩ := stairs_turn hW hB.a1 hz hR s5 hI
        have hi : i < ws.length := (List.getElem?_eq_some_iff.mp hz).1
        have hc6 := hB.c6
        have := hW.1
        exact ⟨acc, t1, sz (by omega), same_new (s4.trans s5) nD2, t3⟩
      · rintro H4 ⟨s4, hR⟩
        rw [List.length_map, List.take_length] at hR
        have s5 := s3.trans s4
        exact ⟨p, D2, a, b, c, _, rfl, hB.same s5, hR, stairs_rowsOk hW, fun r H5 s6 hiff => k r H5 (s5.trans s6) hiff⟩
/-- pile_of_ways -/
theorem ok_pileWays (F : FnP K "pile_of_ways" sPileWays f fd) {C : Addr} (T : ExcT K mg "NoWays" C)
    {fB : Addr} {fdB : FuncData} (CB : CalAt Pg w K mg base CX0 6 "are_ways" ["box", "thing"] spAreWays fB fdB)
    {fS : Addr} {fdS : FuncData} (CS : CalAt Pg w K mg base CX0 1 "staircase_by" ["way"] spStairBy fS fdS) {fA : Addr} {fdA : FuncData} (CA : CalAt Pg w K mg base CX0 6 "pile_of_stairs" ["box", "stairs"] spPileOf fA fdA) : FnOk Pg w K mg base (L2.CX Pg w) 7 f fd ["box", "ways"] (spPileWays C) := by
  refine F.ok scPileWays (fun vs H Q E h => ?_) (fun cdv A outer s H vs Q E hr h => ?_)
  · obtain ⟨p, q, a, b, c, P, rfl, _⟩ := h
    rfl
  · obtain ⟨p, q, a, b, c, ws, rfl, hB, hT, hW, kY, kN⟩ := h
    have hr1 := hr.mono (show 1 ≤ 6 by decide)
    refine ⟨_, pss_cons (ps_if (pt_not (pt_val (pe_call CB.ok hr (by rfl) CB.g CB.kp CB.b .nil pass0 (pa_cons (pv 0) (pa_cons (pv 1) pa_nil)))))
        (pss_one (ps_raise rfl (takes_of rfl rfl rfl rfl) (pmk_own PySem.F.excBase_ValueError T.xI T.g T.kp (raises_own T.sub T.ty) (by rfl)))) pss_nil)
      (pss_one (ps_ret (pe_call CA.ok hr (by rfl) CA.g CA.kp CA.b .nil pass0 (pa_cons (pv 0) (pa_cons
        (pe_lc (own := [("way", 2)]) (g := gName 2) (tt := tYes) (by rfl) scPileWays.nd (pi_list (pv 1)) (blkOk_by (own := [("way", 2)]) (N := ["box", "ways", "way"]) (sc := defScope sPileWays) (by decide +kernel)) (fun _ _ _ _ _ => pg_name (i := 2) scPileWays.nd rfl (Or.inl rfl))
            (fun _ _ _ _ _ => pts_nil)
            (fun _ _ _ _ _ => pe_call CS.ok hr1 (by rfl) CS.g CS.kp CS.b .nil pass0 (pa_cons (pv 2) pa_nil))) pa_nil))))), ?_⟩
    refine ⟨_, rfl, _, rfl, p, q, a, b, c, ws, rfl, hB, hT, hW, fun r H1 s1 hiff => ⟨r, rfl, ?_⟩⟩
    cases r with
    | false =>
      exact iteT (kN (fun z => nomatch (hiff.mpr z)) H1 s1)
    | true =>
      have hP := hiff.mp rfl
      refine iteF ?_
      have hL3 := SqL.of (K := K) (hT.same s1)
      refine ⟨_, rfl, _, rfl, q, rfl, ⟨_, hL3⟩, fun D2 nD2 => lc_list (K := K) (a := q) (xs := ws.map vT) (fun i H' => Same H1 H' ∧ Rows H' D2 ((ws.take i).map stair))
        ⟨same_upd nD2, [], upd_same, RowsAt.nil⟩ (fun i H' _ hP => hP.1.seq hL3) ?_ ?_⟩
      · rintro i x H' hx ⟨s4, hR⟩
        obtain ⟨z, hz, rfl⟩ := get_map hx
        refine ⟨rfl, ?_⟩
        refine ⟨_, rfl, z, rfl, waysOk_len hW hB.a6 hB.b6 (List.mem_of_getElem? hz), fun r H5 s5 hI => ?_⟩
        obtain ⟨acc, t1, t2, t3⟩ := stairs_turn hW hB.a1 hz hR s5 hI
        have hi : i < ws.length := (List.getElem?_eq_some_iff.mp hz).1
        have hc6 := hB.c6
        have := hW.1
        exact ⟨acc, t1, sz (by omega), same_new (s4.trans s5) nD2, t3⟩
      · rintro H4 ⟨s4, hR⟩
        rw [List.length_map, List.take_length] at hR
        have s5 := s1.trans s4
        exact ⟨p, D2, a, b, c, _, rfl, hB.same s5, hR, hP, fun r H5 s6 hR5 => kY hP r H5 (s5.trans s6) hR5⟩
end
end CP

namespace CP
open PySem PySem.Spec PyProof.Rows L2 TL CPM
/-! ### points, as tuples at addresses; the dict of those met -/
def TupsAt (H : Hp) (as : List Addr) (L : List (Int × Int)) : Prop := as.length = L.length ∧ ∀ (i : Nat) (a : Addr) (p : Int × Int), as[i]? = some a → L[i]? = some p → H a = some (.tup [.int p.1, .int p.2])
theorem TupsAt.same {H H' : Hp} {as : List Addr} {L : List (Int × Int)} (h : TupsAt H as L) (s : Same H H') : TupsAt H' as L := ⟨h.1, fun i a p e1 e2 => s _ _ (h.2 i a p e1 e2)⟩
theorem TupsAt.snoc {H : Hp} {as : List Addr} {L : List (Int × Int)} {a : Addr} {p : Int × Int} (h : TupsAt H as L) (ha : H a = some (.tup [.int p.1, .int p.2])) : TupsAt H (as ++ [a]) (L ++ [p]) := by
  refine ⟨by rw [List.length_append, List.length_append, h.1]; rfl, fun i b r e1 e2 => ?_⟩
  by_cases hi : i < as.length
  · rw [List.getElem?_append_left hi] at e1
    rw [List.getElem?_append_left (by rw [← h.1]; exact hi)] at e2
    exact h.2 i b r e1 e2
  · rw [List.getElem?_append_right (by omega)] at e1
    rw [List.getElem?_append_right (by rw [← h.1]; omega)] at e2
    rw [← h.1] at e2
    cases hd : i - as.length with
    | zero =>
      rw [hd] at e1 e2
      simp at e1 e2
      subst e1 e2
      exact ha
    | succ n =>
      rw [hd] at e1
      simp at e1
def Pts (H : Hp) (r : Addr) (L : List (Int × Int)) : Prop := ∃ as : List Addr, H r = some (.lst (as.map V.ref)) ∧ TupsAt H as L
def kvP (L : List (Int × Int)) : List (List Key × V) := L.map fun p => ([Sum.inl p.1, Sum.inl p.2], V.bl true)
theorem kvP_has (L : List (Int × Int)) (p : Int × Int) : (valV (kvP L) [Sum.inl p.1, Sum.inl p.2]).isSome = decide (p ∈ L) := by
  rw [← valV_any]
  unfold kvP
  rw [List.any_map, Bool.eq_iff_iff, List.any_eq_true, decide_eq_true_eq]
  constructor
  · rintro ⟨q, hq, e⟩
    have e := of_decide_eq_true e
    have e1 : q.1 = p.1 := by
      have := List.cons.inj e
      exact Sum.inl.inj this.1
    have e2 : q.2 = p.2 := by
      have := List.cons.inj (List.cons.inj e).2
      exact Sum.inl.inj this.1
    rw [show p = q from Prod.ext e1.symm e2.symm]
    exact hq
  · intro h
    exact ⟨p, h, decide_eq_true rfl⟩
theorem kvP_snoc (L : List (Int × Int)) (p : Int × Int) (h : p ∉ L) : putK (kvP L) [Sum.inl p.1, Sum.inl p.2] (V.bl true) = kvP (L ++ [p]) := by
  have hn : valV (kvP L) [Sum.inl p.1, Sum.inl p.2] = none := by
    have := kvP_has L p
    rw [decide_eq_false h] at this
    cases e : valV (kvP L) [Sum.inl p.1, Sum.inl p.2] with
    | none => rfl
    | some v => rw [e] at this; cases this
  rw [putK_new _ hn]
  unfold kvP
  rw [List.map_append]; rfl
theorem ptsTo_succ (ws : List (List Nat)) (i : Nat) : ptsTo ws (i + 1) = ptsTo ws i ++ ptsK i (ws.getD i []) := by
  unfold ptsTo
  rw [List.range_succ, List.flatMap_append]
  simp
theorem ptsTo_more (ws : List (List Nat)) (i : Nat) : ∀ d, ∃ r, ptsTo ws (i + d) = ptsTo ws i ++ r
  | 0 => ⟨[], by simp⟩
  | d + 1 => by
    obtain ⟨r, e⟩ := ptsTo_more ws i d
    refine ⟨r ++ ptsK (i + d) (ws.getD (i + d) []), ?_⟩
    rw [show i + (d + 1) = (i + d) + 1 by omega, ptsTo_succ, e, List.append_assoc]
theorem ptsK_len (k : Nat) (w : List Nat) : (ptsK k w).length = w.length + 1 := by
  unfold ptsK
  rw [List.length_map, List.length_range]
theorem ptsTo_len {ws : List (List Nat)} (h : ∀ w ∈ ws, w.length ≤ 12) : ∀ i, (ptsTo ws i).length ≤ 13 * i
  | 0 => Nat.le_refl _
  | i + 1 => by
    rw [ptsTo_succ, List.length_append, ptsK_len]
    have := ptsTo_len h i
    have h2 : (ws.getD i []).length ≤ 12 := by
      rw [List.getD_eq_getElem?_getD]
      cases e : ws[i]? with
      | none => exact Nat.zero_le _
      | some w => exact h w (List.mem_of_getElem? e)
    omega
theorem nodup_snoc {α : Type} {L : List α} {p : α} (h : L.Nodup) (hp : p ∉ L) : (L ++ [p]).Nodup := by
  rw [List.nodup_append]
  refine ⟨h, by simp, fun a ha b hb e => ?_⟩
  have : b = p := by simpa using hb
  subst this
  subst e
  exact hp ha
/-- over enumerate(list), the list left as it is -/
theorem for_enum {K : PySem.W.Frag} {a : Addr} {xs : List V} {g : TG} {tb : TS} {D : Ends} {σ : L2.St} {H : Hp} (Pv : Nat → L2.St → Hp → Prop) (h0 : Pv 0 σ H) (hl : ∀ i σ H, i ≤ xs.length → Pv i σ H → SqL K H a xs)
    (hs : ∀ i x T σ H, xs[i]? = some x → Pv i σ H → H T = none → g (.ref T) σ (upd H T (.tup [.int (i : Nat), x])) fun σ2 H2 => tb { D with nx := Pv (i + 1), ct := Pv (i + 1), bk := D.nx } σ2 H2) (hd : ∀ σ H, Pv xs.length σ H → D.nx σ H) :
    ∃ W : Nat → Nat → L2.St → Hp → Prop, (∃ m, W 0 m σ H) ∧ ∀ i m σ H, W i m σ H →
      ((Ite K a).stop i H ∧ D.nx σ H) ∨ ((Ite K a).go i H ∧ ∃ N : L2.St → Hp → Prop, (∀ σ' H', N σ' H' → ∃ m', m' < m ∧ W (i + 1) m' σ' H') ∧ ∀ x H', (Ite K a).yld i H x H' → g x σ H' fun σ2 H2 => tb { D with nx := N, ct := N, bk := D.nx } σ2 H2) := by
  refine ⟨fun i m σ H => m = xs.length - i ∧ i ≤ xs.length ∧ Pv i σ H, ⟨xs.length, by simp, Nat.zero_le _, h0⟩, ?_⟩
  rintro i m σ H ⟨rfl, hi, p⟩
  have q := hl i σ H hi p
  by_cases hlt : i < xs.length
  · refine .inr ⟨⟨xs, xs[i], q, by simp [hlt]⟩, Pv (i + 1), fun σ' H' p' => ⟨xs.length - (i + 1), by omega, rfl, hlt, p'⟩, fun x H' y => ?_⟩
    obtain ⟨T, z, rfl, nT, rfl, fz⟩ := y
    exact hs i z T σ H (fz xs q) p nT
  · have e : i = xs.length := by omega
    subst e
    exact .inl ⟨⟨xs, q, Nat.le_refl _⟩, hd σ H p⟩
abbrev sPoints : Stmt := top 24
abbrev sNever : Stmt := top 25
theorem scPoints : FnScope ["way", "k", "x", "y", "found", "sign"] ["way", "k"] (defScope sPoints) := ⟨rfl, rfl, rfl, by decide +kernel, rfl, by decide +kernel, by decide +kernel⟩
theorem scNever : FnScope ["box", "ways", "met", "k", "way", "point"] ["box", "ways"] (defScope sNever) := ⟨rfl, rfl, rfl, by decide +kernel, rfl, by decide +kernel, by decide +kernel⟩
def spPoints : Sp := fun vs H Q _ => ∃ (w : List Nat) (k : Nat), vs = [vT w, .int (k : Int)] ∧ w.length ≤ 12 ∧ ∀ r H', Same H H' → Pts H' r (ptsK k w) → Q (.ref r) H'
def spNever : Sp := fun vs H Q _ => ∃ (p q : Addr) (a b c : Nat) (ws : List (List Nat)), vs = [.ref p, .ref q] ∧ Bx H p a b c ∧ Txts H q ws ∧ WaysOk a b c ws ∧ ∀ (r : Bool) H', Same H H' → (r = true ↔ (allPts ws).Nodup) → Q (.bl r) H'
theorem rc_step {w : List Nat} {i c : Nat} (h : w[i]? = some c) : rc (w.take (i + 1)) = rc (w.take i) + (if c = 114 then 1 else 0) := by
  rw [take_more h]
  unfold rc
  rw [List.count_append]
  by_cases e : c = 114
  · subst e; simp
  · simp [e]
section
variable {Pg : Program} {w : World} {K : PySem.W.Frag} {mg : Str → Option Value} {base : Heap} {f : Addr} {fd : FuncData}
theorem ok_points (F : FnP K "points_of_way" sPoints f fd) : FnOk Pg w K mg base CX0 1 f fd ["way", "k"] spPoints := by
  refine F.ok scPoints (fun vs H Q E h => ?_) (fun cdv A outer s H vs Q E hr h => ?_)
  · obtain ⟨w, k, rfl, _⟩ := h
    rfl
  · obtain ⟨w, k, rfl, hw12, kk⟩ := h
    refine ⟨_, PSs.nox (pss_cons (ps_set (i := 2) scPoints.nd rfl (.inl rfl) (pe_op op_sub pe_int (pv 1)))
      (pss_cons (ps_set (i := 3) scPoints.nd rfl (.inl rfl) (pv 1))
      (pss_cons (ps_set (i := 4) scPoints.nd rfl (.inl rfl) (pe_lst (pa_cons (pe_tup (pa_cons (pv 2) (pa_cons (pv 3) pa_nil))) pa_nil)))
      (pss_cons (ps_for PassesOwn.never rfl (pi_str (pv 0)) (pg_name (i := 5) scPoints.nd rfl (.inl rfl))
        (pss_cons (ps_if (pt_cmpR op_eq (pv 5) pe_str (nomark _)) (pss_one (ps_aug (i := 2) scPoints.nd rfl (.inl rfl) pe_int ip_add)) (pss_one (ps_aug (i := 3) scPoints.nd rfl (.inl rfl) pe_int ip_add)))
        (pss_one (ps_expr (pe_bm PySem.F.plainAttrs_list PySem.F.slot_list_append PySem.F.type_list_append mt_append (pv 4) (pa_cons (pe_tup (pa_cons (pv 2) (pa_cons (pv 3) pa_nil))) pa_nil))))))
      (pss_one (ps_ret (pv 4))))))), ?_⟩
    refine ⟨_, rfl, 0, (k : Int), rfl, rfl, _, rfl, _, rfl, _, rfl, by show 2 ≤ sizeLine; decide, fun t nt => ⟨by show 1 ≤ sizeLine; decide, fun o no => ?_⟩⟩
    have s1 : Same H (upd H t (.tup [.int (0 - (k : Int)), .int (k : Int)])) := same_upd nt
    have et : (upd H t (.tup [.int (0 - (k : Int)), .int (k : Int)])) t = some (.tup [.int (0 - (k : Int)), .int (k : Int)]) := upd_same
    generalize upd H t (.tup [.int (0 - (k : Int)), .int (k : Int)]) = H1 at s1 et no ⊢
    have s2 : Same H1 (upd H1 o (.lst [.ref t])) := same_upd no
    have eo : (upd H1 o (.lst [.ref t])) o = some (.lst [.ref t]) := upd_same
    have nH : H o = none := s1.free no
    generalize upd H1 o (.lst [.ref t]) = H2 at s2 eo ⊢
    refine ⟨_, rfl, S w, rfl, for_str (w := w) (fun i σ H' => ∃ (x y : Int) (y5 : Option V) (as : List Addr), σ = [some (vT w), some (.int (k : Int)), some (.int x), some (.int y), some (.ref o), y5] ∧ x = (ptAt k w i).1 ∧ y = (ptAt k w i).2 ∧ Same H H' ∧
        H' o = some (.lst (as.map V.ref)) ∧ TupsAt H' as ((List.range (i + 1)).map (ptAt k w)))
      ⟨_, _, none, [t], rfl, ?_, ?_, s1.trans s2, eo, ?_⟩ ?_ ?_⟩
    · unfold ptAt; simp [rc]
    · unfold ptAt; simp [rc]
    · refine ⟨rfl, fun i a p q1 q2 => ?_⟩
      cases i with
      | zero =>
        have q1 : t = a := by simpa using q1
        have q2 : ptAt k w 0 = p := by simpa using q2
        subst q1 q2
        have e1 : (ptAt k w 0).1 = 0 - (k : Int) := by unfold ptAt; simp [rc]
        have e2 : (ptAt k w 0).2 = (k : Int) := by unfold ptAt; simp [rc]
        rw [e1, e2]
        exact s2 _ _ et
      | succ i => simp at q1
    · rintro i c σ H' hc ⟨x, y, y5, as, rfl, ex, ey, sm, eO, hA⟩
      have hi : i < w.length := (List.getElem?_eq_some_iff.mp hc).1
      have hst := rc_step hc
      have hlen : as.length ≤ 13 := by
        rw [hA.1, List.length_map, List.length_range]; omega
      -- the end of the turn
      have fin : ∀ (x' y' : Int) (T : Addr), x' = (ptAt k w (i + 1)).1 → y' = (ptAt k w (i + 1)).2 → H' T = none → Same H (upd (upd H' T (.tup [.int x', .int y'])) o (.lst (as.map V.ref ++ [.ref T]))) ∧ (upd (upd H' T (.tup [.int x', .int y'])) o (.lst (as.map V.ref ++ [.ref T]))) o = some (.lst ((as ++ [T]).map V.ref)) ∧
          TupsAt (upd (upd H' T (.tup [.int x', .int y'])) o (.lst (as.map V.ref ++ [.ref T]))) (as ++ [T]) ((List.range (i + 1 + 1)).map (ptAt k w)) := fun x' y' T hx hy nT => by
        subst hx hy
        have sT : Same H' (upd H' T (.tup [.int (ptAt k w (i + 1)).1, .int (ptAt k w (i + 1)).2])) := same_upd nT
        have eT : (upd H' T (.tup [.int (ptAt k w (i + 1)).1, .int (ptAt k w (i + 1)).2])) T = some (.tup [.int (ptAt k w (i + 1)).1, .int (ptAt k w (i + 1)).2]) := upd_same
        generalize upd H' T (.tup [.int (ptAt k w (i + 1)).1, .int (ptAt k w (i + 1)).2]) = H3 at sT eT ⊢
        have eO3 := sT _ _ eO
        refine ⟨same_new (sm.trans sT) nH, by rw [upd_same, List.map_append]; rfl, ?_⟩
        rw [range_snoc]
        have hA3 := hA.same sT
        have keep : ∀ z x, H3 z = some (.tup x) → (upd H3 o (.lst (as.map V.ref ++ [.ref T]))) z = some (.tup x) := fun z x e => by
          rw [upd_ne (ne_of e eO3 (fun q => nomatch q))]; exact e
        exact TupsAt.snoc ⟨hA3.1, fun m z p e1 e2 => keep _ _ (hA3.2 m z p e1 e2)⟩ (keep _ _ eT)
      refine ⟨_, rfl, rfl, _, rfl, ?_⟩
      by_cases h114 : c = 114
      · rw [if_pos h114] at hst
        have e1 : x + 1 = (ptAt k w (i + 1)).1 := by
          rw [ex]
          show (rc (w.take i) : Int) - k + 1 = (rc (w.take (i + 1)) : Int) - k
          rw [hst]; omega
        have e2 : y = (ptAt k w (i + 1)).2 := by
          rw [ey]
          show (i : Int) - (rc (w.take i) : Int) + k = ((i + 1 : Nat) : Int) - (rc (w.take (i + 1)) : Int) + k
          rw [hst]; omega
        refine ifT (dT' (by rw [h114, eR])) ⟨_, rfl, x, 1, rfl, rfl, ?_⟩
        refine ⟨_, rfl, .inl ⟨rfl, _, SqL.of eO⟩, _, rfl, _, rfl, by show 2 ≤ sizeLine; decide, fun T nT => ?_⟩
        exact ⟨o, _, _, rfl, rfl, by rw [upd_ne (ne_of_none eO nT)]; exact eO, by rw [List.length_map]; exact sz (by omega), x + 1, y, _, as ++ [T], rfl, e1, e2, fin (x + 1) y T e1 e2 nT⟩
      · rw [if_neg h114] at hst
        have e1 : x = (ptAt k w (i + 1)).1 := by
          rw [ex]
          show (rc (w.take i) : Int) - k = (rc (w.take (i + 1)) : Int) - k
          rw [hst]; omega
        have e2 : y + 1 = (ptAt k w (i + 1)).2 := by
          rw [ey]
          show (i : Int) - (rc (w.take i) : Int) + k + 1 = ((i + 1 : Nat) : Int) - (rc (w.take (i + 1)) : Int) + k
          rw [hst]; omega
        refine ifF (dF fun z => h114 ?_) ⟨_, rfl, y, 1, rfl, rfl, ?_⟩
        · rw [eR] at z
          have := S_inj (V.str.inj z)
          simpa using this
        refine ⟨_, rfl, .inl ⟨rfl, _, SqL.of eO⟩, _, rfl, _, rfl, by show 2 ≤ sizeLine; decide, fun T nT => ?_⟩
        exact ⟨o, _, _, rfl, rfl, by rw [upd_ne (ne_of_none eO nT)]; exact eO, by rw [List.length_map]; exact sz (by omega), x, y + 1, _, as ++ [T], rfl, e1, e2, fin x (y + 1) T e1 e2 nT⟩
    · rintro σ H' ⟨x, y, y5, as, rfl, ex, ey, sm, eO, hA⟩
      exact ⟨_, rfl, kk o H' sm ⟨as, eO, hA⟩⟩
end
end CP

namespace CP
open PySem PySem.Spec PyProof.Rows L2 TL CPM
/-- all but the object at m is as it was -/
def Bar (m : Addr) (H H' : Hp) : Prop := ∀ b o, b ≠ m → H b = some o → H' b = some o
theorem Bar.refl (m : Addr) (H : Hp) : Bar m H H := fun _ _ _ h => h
theorem Bar.upd {m : Addr} {H H' : Hp} {o : HO} (h : Bar m H H') : Bar m H (upd H' m o) := fun b x hb e => by
  rw [upd_ne hb]; exact h b x hb e
section
variable {Pg : Program} {w : World} {K : PySem.W.Frag} {mg : Str → Option Value} {base : Heap} {f : Addr} {fd : FuncData}
theorem ok_never (F : FnP K "never_touch" sNever f fd) (mE : mg "enumerate" = none) {fB : Addr} {fdB : FuncData} (CB : CalAt Pg w K mg base CX0 3 "need_box" ["box"] spNeedBox fB fdB)
    {fP : Addr} {fdP : FuncData} (CP : CalAt Pg w K mg base CX0 1 "points_of_way" ["way", "k"] spPoints fP fdP) : FnOk Pg w K mg base CX0 4 f fd ["box", "ways"] spNever := by
  refine F.ok scNever (fun vs H Q E h => ?_) (fun cdv A outer s H vs Q E hr h => ?_)
  · obtain ⟨p, q, a, b, c, P, rfl, _⟩ := h
    rfl
  · obtain ⟨p, q, a, b, c, ws, rfl, hB, hT, hW, k⟩ := h
    have hr1 := hr.mono (show 1 ≤ 3 by decide)
    have hu := hu_of hr
    refine ⟨_, PSs.nox (pss_cons (ps_expr (pe_call CB.ok hr (by rfl) CB.g CB.kp CB.b .nil pass0 (pa_cons (pv 0) pa_nil)))
      (pss_cons (ps_set (i := 2) scNever.nd rfl (.inl rfl) pe_dnewT)
      (pss_cons (ps_for PassesOwn.never rfl (pi_enum (by rfl) mE (pa_cons (pv 1) pa_nil)) (pg_tup (by rfl) (pgs_cons (pg_name (i := 3) scNever.nd rfl (.inl rfl)) (pgs_cons (pg_name (i := 4) scNever.nd rfl (.inl rfl)) pgs_nil)))
        (pss_one (ps_for PassesOwn.never rfl (pi_list (pe_call CP.ok hr1 (by rfl) CP.g CP.kp CP.b .nil pass0 (pa_cons (pv 4) (pa_cons (pv 3) pa_nil)))) (pg_name (i := 5) scNever.nd rfl (.inl rfl))
          (pss_cons (ps_if (pt_cmp (pc_din hu (pv 5) (pv 2)) (by rfl)) (pss_one (ps_ret pe_bl)) pss_nil)
          (pss_one (ps_dput hu (pv 2) (pv 5) pe_bl (by rfl)))))))
      (pss_one (ps_ret pe_bl))))), ?_⟩
    refine ⟨_, rfl, p, a, b, c, rfl, hB, fun H1 s1 => ?_⟩
    intro m nm
    have nH : H m = none := s1.free nm
    have s2 : Same H (upd H1 m (.dT [])) := s1.trans (same_upd nm)
    have em : (upd H1 m (.dT [])) m = some (.dT (kvP (ptsTo ws 0))) := upd_same
    generalize upd H1 m (.dT []) = H2 at s2 em ⊢
    have hlw : ∀ z ∈ ws, z.length ≤ 12 := fun z hz => waysOk_len hW hB.a6 hB.b6 hz
    have hc6 := hB.c6
    have hwc := hW.1
    refine ⟨_, rfl, q, _, rfl, SqL.of (hT.same s2), for_enum (K := K) (a := q) (xs := ws.map vT)
      (fun i σ H' => ∃ y3 y4 y5, σ = [some (.ref p), some (.ref q), some (.ref m), y3, y4, y5] ∧ Same H H' ∧ H' m = some (.dT (kvP (ptsTo ws i))) ∧ (ptsTo ws i).Nodup)
      ⟨none, none, none, rfl, s2, em, .nil⟩ (fun i σ H' _ ⟨_, _, _, _, sm, _, _⟩ => SqL.of (hT.same sm)) ?_ ?_⟩
    · rintro i x T σ H3 hx ⟨y3, y4, y5, rfl, sm3, em3, nd3⟩ nT
      obtain ⟨z, hz, rfl⟩ := get_map hx
      have hi : i < ws.length := (List.getElem?_eq_some_iff.mp hz).1
      have hgd : ws.getD i [] = z := by rw [List.getD_eq_getElem?_getD, hz]; rfl
      have sT : Same H3 (upd H3 T (.tup [.int ((i : Nat) : Int), vT z])) := same_upd nT
      have eT : (upd H3 T (.tup [.int ((i : Nat) : Int), vT z])) T = some (.tup [.int ((i : Nat) : Int), vT z]) := upd_same
      refine ⟨T, _, rfl, SqT.of eT, rfl, _, _, rfl, _, _, rfl, rfl, ?_⟩
      generalize upd H3 T (.tup [.int ((i : Nat) : Int), vT z]) = H4 at sT eT ⊢
      -- points_of_way(way, k)
      refine ⟨_, rfl, _, rfl, z, i, rfl, hlw z (List.mem_of_getElem? hz), fun r H5 s5 hP => ?_⟩
      obtain ⟨as, er, hA⟩ := hP
      have em5 := s5 _ _ (sT _ _ em3)
      have rm : r ≠ m := ne_of er em5 (fun q => nomatch q)
      have e1 : ptsTo ws (i + 1) = ptsTo ws i ++ ptsK i z := by rw [ptsTo_succ, hgd]
      have hlen := ptsTo_len hlw (i + 1)
      have hlas := hA.1
      rw [e1, List.length_append] at hlen
      refine ⟨r, rfl, ⟨_, SqL.of er⟩, for_list (K := K) (a := r) (xs := as.map V.ref)
        (fun j σ H' => ∃ y5, σ = [some (.ref p), some (.ref q), some (.ref m), some (.int ((i : Nat) : Int)), some (vT z), y5] ∧ Bar m H5 H' ∧ H' m = some (.dT (kvP (ptsTo ws i ++ (ptsK i z).take j))) ∧ (ptsTo ws i ++ (ptsK i z).take j).Nodup)
        ⟨y5, rfl, Bar.refl _ _, by rw [List.take_zero, List.append_nil]; exact em5, by rw [List.take_zero, List.append_nil]; exact nd3⟩ (fun j σ H' _ ⟨_, _, sb, _, _⟩ => SqL.of (sb _ _ rm er)) ?_ ?_⟩
      · rintro j x σ H6 hx6 ⟨y5, rfl, sb, em6, nd6⟩
        obtain ⟨ta, hta, rfl⟩ := get_map hx6
        have hj : j < as.length := (List.getElem?_eq_some_iff.mp hta).1
        have hpj : (ptsK i z)[j]? = some ((ptsK i z)[j]'(by omega)) := List.getElem?_eq_getElem (by omega)
        generalize (ptsK i z)[j]'(by omega) = pt at hpj
        have eta := hA.2 j ta pt hta hpj
        have tm : ta ≠ m := ne_of eta em5 (fun q => nomatch q)
        have eta6 : H6 ta = some (.tup ([Sum.inl pt.1, Sum.inl pt.2].map kV)) := sb _ _ tm eta
        have hkl : (kvP (ptsTo ws i ++ (ptsK i z).take j)).length ≤ 1000 := by
          unfold kvP
          rw [List.length_map, List.length_append, List.length_take]
          omega
        refine ⟨_, rfl, _, rfl, m, _, rfl, DGet.t em6 eta6, _, rfl, ?_⟩
        rw [kvP_has]
        by_cases hin : pt ∈ ptsTo ws i ++ (ptsK i z).take j
        · refine ifT (dT' hin) (k false H6 (fun b o e => ?_) ⟨fun q => (nomatch q), fun q => ?_⟩)
          · have hbm : b ≠ m := ne_of_none e nH
            exact sb _ _ hbm (s5 _ _ (sT _ _ (sm3 _ _ e)))
          · exfalso
            obtain ⟨rest, hrest⟩ := ptsTo_more ws (i + 1) (ws.length - (i + 1))
            have q : (ptsTo ws ws.length).Nodup := q
            rw [show i + 1 + (ws.length - (i + 1)) = ws.length by omega] at hrest
            rw [hrest, List.nodup_append] at q
            have q1 := q.1
            have e3 : ptsK i z = (ptsK i z).take j ++ pt :: (ptsK i z).drop (j + 1) := by
              conv => lhs; rw [← List.take_append_drop j (ptsK i z)]
              rw [List.drop_eq_getElem_cons (show j < (ptsK i z).length by omega), (List.getElem?_eq_some_iff.mp hpj).2]
            rw [e1, e3, ← List.append_assoc, List.nodup_append] at q1
            exact q1.2.2 pt hin pt List.mem_cons_self rfl
        · refine ifF (dF hin) ⟨_, rfl, _, rfl, m, _, rfl, DPut.t em6 eta6 (sz hkl), _, rfl, sb.upd, ?_, ?_⟩
          · rw [upd_same, kvP_snoc _ _ hin, take_more hpj, ← List.append_assoc]
          · rw [take_more hpj, ← List.append_assoc]
            exact nodup_snoc nd6 hin
      · rintro σ H6 ⟨y5, rfl, sb, em6, nd6⟩
        rw [List.length_map, hlas, List.take_length, ← e1] at em6 nd6
        refine ⟨_, _, _, rfl, fun b o e => ?_, em6, nd6⟩
        have hbm : b ≠ m := ne_of_none e nH
        exact sb _ _ hbm (s5 _ _ (sT _ _ (sm3 _ _ e)))
    · rintro σ H3 ⟨y3, y4, y5, rfl, sm3, em3, nd3⟩
      rw [List.length_map] at nd3
      exact k true H3 sm3 ⟨fun _ => nd3, fun _ => rfl⟩
end
end CP

namespace CP
open PySem PySem.Spec PyProof.Rows L2 TL CPM
/-- two ways of an if that leave one number go on as one -/
theorem ite_join {c : Int → Prop} [∀ n, Decidable (c n)] {A B R0 R : Int → Prop} (tail : ∀ n, R n → B n) (h0 : ∀ n, R0 n → ¬ c n → R n) (hA : (∀ n, R n → B n) → ∀ n, R0 n → c n → A n) : ∀ n, R0 n → if c n then A n else B n := by
  intro n r
  by_cases h : c n
  · rw [if_pos h]; exact hA tail n r h
  · rw [if_neg h]; exact tail n (h0 n r h)
theorem bx_of {H : Hp} {p : Addr} {x y z : Int} (h : H p = some (.tup [.int x, .int y, .int z])) (hx : 1 ≤ x ∧ x ≤ 6) (hy : 1 ≤ y ∧ y ≤ 6) (hz : 1 ≤ z ∧ z ≤ 6) : Bx H p x.toNat y.toNat z.toNat := by
  refine ⟨?_, by omega, by omega, by omega, by omega, by omega, by omega⟩
  rw [show ((x.toNat : Nat) : Int) = x by omega, show ((y.toNat : Nat) : Int) = y by omega, show ((z.toNat : Nat) : Int) = z by omega]
  exact h
theorem get_of_len {ns : List Int} {i : Nat} (h : i < ns.length) : ∃ n, ns[i]? = some n := ⟨_, List.getElem?_eq_getElem h⟩
abbrev sCell : Stmt := top 27
abbrev sStir : Stmt := top 28
abbrev sNumbers : Stmt := top 29
abbrev sBox : Stmt := top 30
theorem scCell : FnScope ["script", "k"] ["script", "k"] (defScope sCell) := ⟨rfl, rfl, rfl, by decide +kernel, rfl, by decide +kernel, by decide +kernel⟩
theorem scStir : FnScope ["cell", "k", "one"] ["cell", "k"] (defScope sStir) := ⟨rfl, rfl, rfl, by decide +kernel, rfl, by decide +kernel, by decide +kernel⟩
theorem scNumbers : FnScope ["cell", "many", "found", "digits", "k", "number"] ["cell", "many"] (defScope sNumbers) := ⟨rfl, rfl, rfl, by decide +kernel, rfl, by decide +kernel, by decide +kernel⟩
theorem scBox : FnScope ["cell", "most", "great", "numbers"] ["cell", "most", "great"] (defScope sBox) := ⟨rfl, rfl, rfl, by decide +kernel, rfl, by decide +kernel, by decide +kernel⟩
def spCell (K : PySem.W.Frag) : Sp := fun vs H Q _ => ∃ (s : Addr) (ns : List Int) (k : Nat), vs = [.ref s, .int (k : Int)] ∧ SqL K H s (ns.map V.int) ∧ ∀ n : Int, Q (.int n) H
def spStir : Sp := fun vs H Q _ => ∃ cell k : Int, vs = [.int cell, .int k] ∧ ∀ n : Int, Q (.int n) H
def spNumbers : Sp := fun vs H Q _ => ∃ (cell : Int) (many : Nat), vs = [.int cell, .int (many : Int)] ∧ many ≤ 100 ∧ ∀ ns r H', ns.length = many → H r = none → Same H H' → Ints H' r ns → Q (.ref r) H'
def spBox : Sp := fun vs H Q _ => ∃ cell : Int, vs = [.int cell, .int 4, .int 6] ∧ ∀ a b c p H', Same H H' → Bx H' p a b c → Q (.ref p) H'
section
variable {Pg : Program} {w : World} {K : PySem.W.Frag} {mg : Str → Option Value} {base : Heap} {f : Addr} {fd : FuncData}
theorem ok_cell (F : FnP K "_law_cell_at" sCell f fd) (mL : mg "len" = none) : FnOk Pg w K mg base CX0 1 f fd ["script", "k"] (spCell K) := by
  refine F.ok scCell (fun vs H Q E h => ?_) (fun cdv A outer s H vs Q E hr h => ?_)
  · obtain ⟨s, ns, k, rfl, _⟩ := h
    rfl
  · obtain ⟨sc, ns, k, rfl, hS, q⟩ := h
    refine ⟨_, PSs.nox (pss_cons (ps_if (pt_cmpR op_lt (pv 1) (pe_callB call_len_seq (by rfl) mL PySem.boot_len (pa_cons (pv 0) pa_nil)) (nomark _)) (pss_one (ps_ret (pe_ix ix_list (pv 0) (pv 1) (fun _ _ => rfl)))) pss_nil)
      (pss_one (ps_ret pe_int))), ?_⟩
    refine ⟨_, rfl, _, rfl, sc, _, rfl, .inl hS, (k : Int), _, rfl, rfl, _, rfl, ?_⟩
    by_cases hlt : (k : Int) < (((ns.map V.int).length : Nat) : Int)
    · rw [List.length_map] at hlt
      obtain ⟨n, hn⟩ := get_of_len (show k < ns.length by omega)
      refine ifT (dT' (by rw [List.length_map]; exact hlt)) ⟨_, rfl, _, rfl, sc, _, _, .int n, rfl, rfl, hS, atI_nat (by rw [List.getElem?_map, hn]; rfl), q n⟩
    · exact ifF (dF hlt) (q 0)
theorem ok_stir (F : FnP K "_law_stir" sStir f fd) : FnOk Pg w K mg base CX0 1 f fd ["cell", "k"] spStir := by
  refine F.ok scStir (fun vs H Q E h => ?_) (fun cdv A outer s H vs Q E hr h => ?_)
  · obtain ⟨cell, k, rfl, _⟩ := h
    rfl
  · obtain ⟨cell, k, rfl, q⟩ := h
    refine ⟨_, PSs.nox (pss_cons (ps_set (i := 2) scStir.nd rfl (.inl rfl) (pe_op op_mod (pe_op op_mul (pe_op op_add (pe_op op_add (pe_op op_mod (pv 0) pe_int) (pe_op op_mul pe_int (pv 1))) pe_int) pe_int) pe_int))
      (pss_cons (ps_set (i := 2) scStir.nd rfl (.inl rfl) (pe_op op_mod (pe_op op_mul (pv 2) (pv 2)) pe_int))
      (pss_one (ps_ret (pe_op op_fdiv (pe_op op_mod (pe_op op_mul (pe_op op_add (pv 2) (pe_op op_mul pe_int (pv 1))) pe_int) pe_int) pe_int))))), ?_⟩
    refine ⟨_, rfl, cell, _, rfl, rfl, by show (0 : Int) < 2147483629; decide, _, rfl, _, k, rfl, rfl, .inl ⟨by decide, by decide⟩, _, _, rfl, rfl, _, _, rfl, rfl, _, _, rfl, rfl, .inr ⟨by decide, by decide⟩, _, _, rfl, rfl, by show (0 : Int) < 2147483647; decide, ?_⟩
    generalize (cell % 2147483629 + 9973 * k + 5) * 48271 = m
    have h0 : 0 ≤ m % 2147483647 := Int.emod_nonneg m (by decide)
    have h1 : m % 2147483647 < 2147483647 := Int.emod_lt_of_pos m (by decide)
    refine ⟨_, rfl, _, rfl, m % 2147483647, m % 2147483647, rfl, rfl, .inl ⟨by omega, by omega⟩, _, _, rfl, rfl, by show (0 : Int) < 2147483587; decide, ?_⟩
    refine ⟨_, rfl, _, rfl, _, k, rfl, rfl, .inl ⟨by decide, by decide⟩, _, _, rfl, rfl, _, _, rfl, rfl, .inr ⟨by decide, by decide⟩, _, _, rfl, rfl, by show (0 : Int) < 2147483563; decide, _, _, rfl, rfl, ⟨by decide, by decide⟩, q _⟩
theorem ok_numbers (F : FnP K "_law_numbers" sNumbers f fd) (mR : mg "range" = none) {fS : Addr} {fdS : FuncData} (CS : CalAt Pg w K mg base CX0 1 "_law_stir" ["cell", "k"] spStir fS fdS) : FnOk Pg w K mg base CX0 2 f fd ["cell", "many"] spNumbers := by
  refine F.ok scNumbers (fun vs H Q E h => ?_) (fun cdv A outer s H vs Q E hr h => ?_)
  · obtain ⟨cell, k, rfl, _⟩ := h
    rfl
  · obtain ⟨cell, many, rfl, hm, q⟩ := h
    refine ⟨_, PSs.nox (pss_cons (ps_set (i := 2) scNumbers.nd rfl (.inl rfl) (pe_lst pa_nil))
      (pss_cons (ps_set (i := 3) scNumbers.nd rfl (.inl rfl) (pv 0))
      (pss_cons (ps_for PassesOwn.never rfl (pi_range1 (by rfl) mR (pa_cons (pv 1) pa_nil)) (pg_name (i := 4) scNumbers.nd rfl (.inl rfl))
        (pss_cons (ps_set (i := 5) scNumbers.nd rfl (.inl rfl) (pe_call CS.ok hr (by rfl) CS.g CS.kp CS.b .nil pass0 (pa_cons (pv 0) (pa_cons (pv 4) pa_nil))))
        (pss_cons (ps_if (pt_cmpR op_ge (pv 0) (pe_op op_pow pe_int pe_int) (nomark _)) (pss_one (ps_set (i := 5) scNumbers.nd rfl (.inl rfl) (pe_op op_mod (pv 3) pe_int))) pss_nil)
        (pss_cons (ps_set (i := 3) scNumbers.nd rfl (.inl rfl) (pe_op op_fdiv (pv 3) pe_int))
        (pss_one (ps_expr (pe_bm PySem.F.plainAttrs_list PySem.F.slot_list_append PySem.F.type_list_append mt_append (pv 2) (pa_cons (pv 5) pa_nil))))))))
      (pss_one (ps_ret (pv 2)))))), ?_⟩
    refine ⟨Nat.zero_le _, fun o no => ?_⟩
    have s1 : Same H (upd H o (.lst [])) := same_upd no
    refine ⟨_, rfl, _, rfl, (many : Int), rfl, by omega, by omega, for_range (lo := 0) (n := ((many : Int)).toNat)
      (fun i σ H' => ∃ (dg : Int) (y4 y5 : Option V) (ns : List Int), σ = [some (.int cell), some (.int (many : Int)), some (.ref o), some (.int dg), y4, y5] ∧ Same H H' ∧ Ints H' o ns ∧ ns.length = i)
      ⟨cell, none, none, [], rfl, s1, upd_same, rfl⟩ ?_ ?_⟩
    · rintro i σ H' hi ⟨dg, y4, y5, ns, rfl, sm, eI, hl⟩
      refine ⟨_, rfl, _, rfl, cell, 0 + (i : Int), rfl, fun n0 => ?_⟩
      refine ⟨_, rfl, 10, 18, rfl, rfl, ⟨by decide, by decide, by decide⟩, cell, _, rfl, rfl, _, rfl, ?_⟩
      have ht : True := trivial
      revert ht
      revert n0
      refine ite_join (R := fun _ => True) ?_ (fun _ _ _ => trivial) (fun t n _ _ => ⟨_, rfl, dg, 720720, rfl, rfl, by show (0 : Int) < 720720; decide, t (dg % 720720) trivial⟩)
      rintro n -
      refine ⟨_, rfl, dg, 720720, rfl, rfl, ⟨by decide, by decide⟩, ?_⟩
      refine ⟨_, rfl, .inl ⟨rfl, _, SqL.of eI⟩, _, rfl, o, _, _, rfl, rfl, eI, ?_, _, _, _, ns ++ [n], rfl, same_new sm no, ?_, ?_⟩
      · rw [List.length_map]
        exact sz (by omega)
      · show (upd H' o _) o = some (.lst (List.map V.int _))
        rw [upd_same, List.map_append]; rfl
      · rw [List.length_append, hl]; rfl
    · rintro σ H' ⟨dg, y4, y5, ns, rfl, sm, eI, hl⟩
      exact ⟨_, rfl, q ns o H' (by omega) no sm eI⟩
theorem ok_box (F : FnP K "_law_box" sBox f fd) {fS : Addr} {fdS : FuncData} (CS : CalAt Pg w K mg base CX0 2 "_law_numbers" ["cell", "many"] spNumbers fS fdS) : FnOk Pg w K mg base CX0 3 f fd ["cell", "most", "great"] spBox := by
  refine F.ok scBox (fun vs H Q E h => ?_) (fun cdv A outer s H vs Q E hr h => ?_)
  · obtain ⟨cell, rfl, _⟩ := h
    rfl
  · obtain ⟨cell, rfl, q⟩ := h
    refine ⟨_, PSs.nox (pss_cons (ps_set (i := 3) scBox.nd rfl (.inl rfl) (pe_call CS.ok hr (by rfl) CS.g CS.kp CS.b .nil pass0 (pa_cons (pv 0) (pa_cons pe_int pa_nil))))
      (pss_cons (ps_if (pt_cmpR op_eq (pe_op op_mod (pe_ix ix_list (pv 3) pe_int (fun _ _ => rfl)) pe_int) pe_int (nomark _)) (pss_one (ps_set (i := 1) scBox.nd rfl (.inl rfl) (pv 2))) pss_nil)
      (pss_one (ps_ret (pe_tup (pa_cons (pe_op op_add pe_int (pe_op op_mod (pe_ix ix_list (pv 3) pe_int (fun _ _ => rfl)) (pv 1))) (pa_cons (pe_op op_add pe_int (pe_op op_mod (pe_ix ix_list (pv 3) pe_int (fun _ _ => rfl)) (pv 1))) (pa_cons (pe_op op_add pe_int (pe_op op_mod (pe_ix ix_list (pv 3) pe_int (fun _ _ => rfl)) (pv 1))) pa_nil)))))))), ?_⟩
    refine ⟨_, rfl, cell, 4, rfl, by decide, fun ns r H1 hl _ s1 hI => ?_⟩
    obtain ⟨n0, h0⟩ := get_of_len (show 0 < ns.length by omega)
    obtain ⟨n1, h1⟩ := get_of_len (show 1 < ns.length by omega)
    obtain ⟨n2, h2⟩ := get_of_len (show 2 < ns.length by omega)
    obtain ⟨n3, h3⟩ := get_of_len (show 3 < ns.length by omega)
    have hS := SqL.of (K := K) hI
    have g : ∀ {i : Nat} {n : Int}, ns[i]? = some n → (ns.map V.int)[i]? = some (.int n) := fun {i n} h => by rw [List.getElem?_map, h]; rfl
    obtain ⟨m4, hm4⟩ : ∃ m : Int, m = 4 := ⟨4, rfl⟩
    refine ⟨_, rfl, r, _, _, _, rfl, rfl, hS, atI_nat (j := 3) (g h3), n3, 8, rfl, rfl, by show (0 : Int) < 8; decide, rfl, _, rfl, ?_⟩
    rw [← hm4]
    revert hm4
    revert m4
    refine ite_join (R := fun m => m = 4 ∨ m = 6) ?_ (fun m h _ => .inl h) (fun t m _ _ => ⟨_, rfl, t 6 (.inr rfl)⟩)
    intro m hm
    have b0 : 0 ≤ n0 % m ∧ n0 % m < 6 := ⟨Int.emod_nonneg _ (by omega), by have := Int.emod_lt_of_pos n0 (show 0 < m by omega); omega⟩
    have b1 : 0 ≤ n1 % m ∧ n1 % m < 6 := ⟨Int.emod_nonneg _ (by omega), by have := Int.emod_lt_of_pos n1 (show 0 < m by omega); omega⟩
    have b2 : 0 ≤ n2 % m ∧ n2 % m < 6 := ⟨Int.emod_nonneg _ (by omega), by have := Int.emod_lt_of_pos n2 (show 0 < m by omega); omega⟩
    refine ⟨_, rfl, r, _, _, _, rfl, rfl, hS, atI_nat (j := 0) (g h0), _, rfl, n0, m, rfl, rfl, by omega, 1, _, rfl, rfl, _, rfl, r, _, _, _, rfl, rfl, hS, atI_nat (j := 1) (g h1), _, rfl, n1, m, rfl, rfl, by omega, 1, _, rfl, rfl, _, rfl, r, _, _, _, rfl, rfl, hS, atI_nat (j := 2) (g h2), _, rfl, n2, m, rfl, rfl, by omega, 1, _, rfl, rfl,
      by show 3 ≤ sizeLine; decide, fun p np => ?_⟩
    exact q _ _ _ p _ (s1.trans (same_upd np)) (bx_of (x := 1 + n0 % m) (y := 1 + n1 % m) (z := 1 + n2 % m) upd_same (by omega) (by omega) (by omega))
end
end CP

namespace CP
open PySem PySem.Spec PyProof.Rows L2 TL CPM
/-! ### plain facts of a pile drawn height by height -/
theorem cut_last (xs : List V) : cutV xs (some (-1)) none = xs.drop (xs.length - 1) := by
  unfold cutV
  rw [HT.sIx_none]
  have e : HT.sIx xs.length 0 (some (-1)) = xs.length - 1 := by
    show (if (-1 : Int) < 0 then ((-1 : Int) + (xs.length : Int)).toNat else min (-1 : Int).toNat xs.length) = xs.length - 1
    rw [if_pos (by decide)]
    omega
  rw [e]
  apply List.take_of_length_le
  rw [List.length_drop]
  exact Nat.le_refl _
theorem at_neg1 {α : Type} {xs : List α} {v : α} (h : xs[xs.length - 1]? = some v) : atI xs (-1) = some v := by
  have hl : xs.length - 1 < xs.length := (List.getElem?_eq_some_iff.mp h).1
  unfold atI ixN
  rw [if_neg (by decide), if_pos (by omega), show ((-1 : Int) + (xs.length : Int)).toNat = xs.length - 1 by omega]
  exact h
theorem row_last {l : List Int} (hp : l.Pairwise (fun x y => y ≤ x)) : ∀ x ∈ l, ∀ r ∈ l.drop (l.length - 1), r ≤ x := by
  intro x hx r hr
  have e := List.take_append_drop (l.length - 1) l
  rw [← e] at hp hx
  obtain ⟨_, _, h3⟩ := List.pairwise_append.mp hp
  rcases List.mem_append.mp hx with h | h
  · exact h3 x h r hr
  · have hl : (l.drop (l.length - 1)).length ≤ 1 := by rw [List.length_drop]; omega
    generalize hd : l.drop (l.length - 1) = d at *
    match d, hl with
    | [], _ => cases h
    | [z], _ =>
      have h1 : x = z := by simpa using h
      have h2 : r = z := by simpa using hr
      omega
theorem row_snoc {j c : Nat} {row : List Int} {v : Int} (h : RowOk j c row) (h0 : 0 ≤ v) (h1 : v ≤ (c : Int)) (hl : ∀ r ∈ row.drop (row.length - 1), v ≤ r) : RowOk (j + 1) c (row ++ [v]) := by
  refine ⟨by rw [List.length_append, h.1]; rfl, fun x hx => ?_, ?_⟩
  · rcases List.mem_append.mp hx with q | q
    · exact h.2.1 x q
    · have : x = v := by simpa using q
      omega
  · rw [List.pairwise_append]
    refine ⟨h.2.2, by simp, fun x hx y hy => ?_⟩
    have hy : y = v := by simpa using hy
    subst hy
    have hne : row ≠ [] := fun z => by rw [z] at hx; cases hx
    have hlen : row.length - 1 < row.length := by
      have := List.length_pos_iff.mpr hne; omega
    have hm : row[row.length - 1] ∈ row.drop (row.length - 1) := by
      rw [List.drop_eq_getElem_cons hlen]; exact List.mem_cons_self
    have := row_last h.2.2 x hx _ hm
    have := hl _ hm
    omega
theorem below_snoc {u row : List Int} {v x : Int} (h : Below u row) (hu : u[row.length]? = some x) (hv : v ≤ x) : Below u (row ++ [v]) := by
  intro j a b e1 e2
  by_cases hj : j < row.length
  · rw [List.getElem?_append_left hj] at e2
    exact h j a b e1 e2
  · have hj2 : j = row.length := by
      have := (List.getElem?_eq_some_iff.mp e2).1
      rw [List.length_append] at this
      simp at this
      omega
    subst hj2
    rw [hu] at e1
    rw [List.getElem?_append_right (Nat.le_refl _)] at e2
    simp at e2
    cases e1
    omega
theorem pile_snoc {i b c : Nat} {P : List (List Int)} {row : List Int} (h : PileOk i b c P) (hr : RowOk b c row) (hb : ∀ u, 0 < i → P[i - 1]? = some u → Below u row) : PileOk (i + 1) b c (P ++ [row]) := by
  refine ⟨by rw [List.length_append, h.1]; rfl, fun x hx => ?_, fun m u l e1 e2 => ?_⟩
  · rcases List.mem_append.mp hx with q | q
    · exact h.2.1 x q
    · have : x = row := by simpa using q
      subst this; exact hr
  · have hm : m + 1 < i + 1 := by
      have := (List.getElem?_eq_some_iff.mp e2).1
      rw [List.length_append, h.1] at this
      simpa using this
    rw [List.getElem?_append_left (by rw [h.1]; omega)] at e1
    by_cases hm2 : m + 1 < i
    · rw [List.getElem?_append_left (by rw [h.1]; omega)] at e2
      exact h.2.2 m u l e1 e2
    · have hmi : m + 1 = i := by omega
      rw [List.getElem?_append_right (by rw [h.1]; omega), h.1, hmi] at e2
      simp at e2
      subst e2
      exact hb u (by omega) (by rw [show i - 1 = m by omega]; exact e1)
/-- the ceiling of a height: the box's, or the height of the row ahead -/
theorem top_of {i j b c : Nat} {P : List (List Int)} (h : PileOk i b c P) (hj : j < b) : ∃ top : Int, (((c : Int) :: List.replicate (min 1 i) ((P.getD (i - 1) []).getD j 0)))[((c : Int) :: List.replicate (min 1 i) ((P.getD (i - 1) []).getD j 0)).length - 1]? = some top ∧ 0 ≤ top ∧ top ≤ (c : Int) ∧
    ∀ u, 0 < i → P[i - 1]? = some u → u[j]? = some top := by
  cases i with
  | zero => exact ⟨(c : Int), rfl, by omega, by omega, fun u h0 => absurd h0 (Nat.lt_irrefl _)⟩
  | succ i =>
    have hi : i < P.length := by rw [h.1]; omega
    have e : P[i]? = some P[i] := List.getElem?_eq_getElem hi
    have R := h.2.1 P[i] (List.getElem_mem hi)
    have ej : P[i][j]? = some (P[i].getD j 0) := getD_some (by rw [R.1]; exact hj)
    have hb := R.2.1 _ (List.mem_of_getElem? ej)
    have eD : P.getD i [] = P[i] := by rw [List.getD_eq_getElem?_getD, e]; rfl
    refine ⟨P[i].getD j 0, ?_, hb.1, hb.2, fun u _ hu => ?_⟩
    · rw [show min 1 (i + 1) = 1 by omega, show i + 1 - 1 = i by omega, eD]; rfl
    · rw [show i + 1 - 1 = i by omega, e] at hu
      cases hu
      exact ej
theorem menu_of (n m : Int) (hm : 0 ≤ m) : ∃ v : Int, ([V.int 0, V.int 0, V.int (if m < 1 then m else 1), V.int (n / 4 % (m + 1))])[(n % 4).toNat]? = some (V.int v) ∧ 0 ≤ v ∧ v ≤ m := by
  have h0 := Int.emod_nonneg n (show (4 : Int) ≠ 0 by decide)
  have h1 := Int.emod_lt_of_pos n (show (0 : Int) < 4 by decide)
  have h2 := Int.emod_nonneg (n / 4) (show m + 1 ≠ 0 by omega)
  have h3 := Int.emod_lt_of_pos (n / 4) (show 0 < m + 1 by omega)
  generalize hk : (n % 4).toNat = k
  have hk4 : k < 4 := by omega
  match k, hk4 with
  | 0, _ => exact ⟨0, rfl, Int.le_refl _, hm⟩
  | 1, _ => exact ⟨0, rfl, Int.le_refl _, hm⟩
  | 2, _ => exact ⟨_, rfl, by split <;> omega, by split <;> omega⟩
  | 3, _ => exact ⟨_, rfl, h2, by omega⟩
abbrev sPile : Stmt := top 31
abbrev nPile : List Str := ["box", "script", "start", "cell", "numbers", "pile", "i", "row", "j", "number", "top", "upper"]
theorem scPile : FnScope nPile ["box", "script", "start", "cell"] (defScope sPile) := ⟨rfl, rfl, rfl, by decide +kernel, rfl, by decide +kernel, by decide +kernel⟩
def spPile (K : PySem.W.Frag) : Sp := fun vs H Q _ => ∃ (p sc : Addr) (a b c : Nat) (ns : List Int) (cell : Int), vs = [.ref p, .ref sc, .int 3, .int cell] ∧ Bx H p a b c ∧ SqL K H sc (ns.map V.int) ∧ ∀ P r H', Same H H' → PileOk a b c P → Rows H' r P → Q (.ref r) H'
section
variable {Pg : Program} {w : World} {K : PySem.W.Frag} {mg : Str → Option Value} {base : Heap} {f : Addr} {fd : FuncData}
theorem ok_pile (F : FnP K "_law_pile" sPile f fd) (mR : mg "range" = none) (mL : mg "len" = none) (mM : mg "min" = none) {fS : Addr} {fdS : FuncData} (CS : CalAt Pg w K mg base CX0 2 "_law_numbers" ["cell", "many"] spNumbers fS fdS) : FnOk Pg w K mg base CX0 3 f fd ["box", "script", "start", "cell"] (spPile K) := by
  refine F.ok scPile (fun vs H Q E h => ?_) (fun cdv A outer s H vs Q E hr h => ?_)
  · obtain ⟨p, sc, a, b, c, ns, cell, rfl, _⟩ := h
    rfl
  · obtain ⟨p, sc, a, b, c, ns, cell, rfl, hB, hS, k⟩ := h
    refine ⟨_, PSs.nox (pss_cons (ps_set (i := 4) scPile.nd rfl (.inl rfl) (pe_call CS.ok hr (by rfl) CS.g CS.kp CS.b .nil pass0 (pa_cons (pv 3) (pa_cons (pe_op op_mul (pe_ix ix_tup (pv 0) pe_int (fun _ _ => rfl)) (pe_ix ix_tup (pv 0) pe_int (fun _ _ => rfl))) pa_nil))))
      (pss_cons (ps_set (i := 5) scPile.nd rfl (.inr rfl) (pe_lst pa_nil))
      (pss_cons (ps_for PassesOwn.never rfl (pi_range1 (by rfl) mR (pa_cons (pe_ix ix_tup (pv 0) pe_int (fun _ _ => rfl)) pa_nil)) (pg_name (i := 6) scPile.nd rfl (.inl rfl))
        (pss_cons (ps_set (i := 7) scPile.nd rfl (.inl rfl) (pe_lst pa_nil))
        (pss_cons (ps_for PassesOwn.never rfl (pi_range1 (by rfl) mR (pa_cons (pe_ix ix_tup (pv 0) pe_int (fun _ _ => rfl)) pa_nil)) (pg_name (i := 8) scPile.nd rfl (.inr rfl))
          (pss_cons (ps_set (i := 9) scPile.nd rfl (.inl rfl) (pe_ix ix_list (pv 4) (pe_op op_add (pe_op op_mul (pv 6) (pe_ix ix_tup (pv 0) pe_int (fun _ _ => rfl))) (pv 8)) (fun _ _ => rfl)))
          (pss_cons (ps_if (pt_cmpR op_lt (pe_op op_add (pe_op op_add (pv 2) (pe_op op_mul (pv 6) (pe_ix ix_tup (pv 0) pe_int (fun _ _ => rfl)))) (pv 8)) (pe_callB call_len_seq (by rfl) mL PySem.boot_len (pa_cons (pv 1) pa_nil)) (nomark _))
            (pss_one (ps_set (i := 9) scPile.nd rfl (.inl rfl) (pe_ix ix_list (pv 1) (pe_op op_add (pe_op op_add (pv 2) (pe_op op_mul (pv 6) (pe_ix ix_tup (pv 0) pe_int (fun _ _ => rfl)))) (pv 8)) (fun _ _ => rfl)))) pss_nil)
          (pss_cons (ps_set (i := 10) scPile.nd rfl (.inl rfl) (pe_ix ix_list (pe_op op_cat (pe_lst (pa_cons (pe_ix ix_tup (pv 0) pe_int (fun _ _ => rfl)) pa_nil))
            (pe_lc (own := [("upper", 11)]) (g := gName 11) (tt := tYes) (by rfl) scPile.nd (pi_list (pe_slice sl_list (pv 5) (po_some (pe_un un_neg pe_int)) po_none)) (blkOk_by (own := [("upper", 11)]) (N := nPile) (sc := defScope sPile) (by decide +kernel)) (fun _ _ _ _ _ => pg_name (i := 11) scPile.nd rfl (Or.inl rfl))
              (fun _ _ _ _ _ => pts_nil)
              (fun _ _ _ _ _ => pe_ix (ix_listK K) (pe_ix (ix_listK K) (pv 5) (pe_un un_neg pe_int) (fun _ _ => rfl)) (pv 8) (fun _ _ => rfl)))) (pe_un un_neg pe_int) (fun _ _ => rfl)))
          (pss_cons (ps_set (i := 10) scPile.nd rfl (.inl rfl) (pe_callB (cr_min rfl) (by rfl) mM (by decide +kernel) (pa_cons (pe_op op_cat (pe_lst (pa_cons (pv 10) pa_nil)) (pe_slice sl_list (pv 7) (po_some (pe_un un_neg pe_int)) po_none)) pa_nil)))
          (pss_one (ps_expr (pe_bm PySem.F.plainAttrs_list PySem.F.slot_list_append PySem.F.type_list_append mt_append (pv 7) (pa_cons (pe_op op_sub (pv 10)
            (pe_ix ix_list (pe_lst (pa_cons pe_int (pa_cons pe_int (pa_cons (pe_callB (call_min2 rfl) (by rfl) mM (by decide +kernel) (pa_cons pe_int (pa_cons (pv 10) pa_nil))) (pa_cons (pe_op op_mod (pe_op op_fdiv (pv 9) pe_int) (pe_op op_add (pv 10) pe_int)) pa_nil))))) (pe_op op_mod (pv 9) pe_int) (fun _ _ => rfl))) pa_nil)))))))))
        (pss_one (ps_expr (pe_bm PySem.F.plainAttrs_list PySem.F.slot_list_append PySem.F.type_list_append mt_append (pv 5) (pa_cons (pv 7) pa_nil)))))))
      (pss_one (ps_ret (pv 5)))))), ?_⟩
    have ha6 := hB.a6
    have hb6 := hB.b6
    have hc6 := hB.c6
    have hT := SqT.of (K := K) hB.at_
    have hab : ((a * b : Nat) : Int) = (a : Int) * (b : Int) := Int.natCast_mul a b
    have hab36 : a * b ≤ 36 := Nat.le_trans (Nat.mul_le_mul ha6 hb6) (by decide)
    -- numbers
    refine ⟨_, rfl, _, rfl, p, _, _, _, rfl, rfl, hT, atI_nat (j := 0) rfl, _, rfl, p, _, _, _, rfl, rfl, hT, atI_nat (j := 1) rfl, (a : Int), (b : Int), rfl, rfl, .inl ⟨by omega, by omega⟩, cell, a * b, by rw [hab]; rfl, by omega, fun nums r H1 hnl _ s1 hN => ?_⟩
    refine ⟨Nat.zero_le _, fun o no => ?_⟩
    have s2 : Same H1 (upd H1 o (.lst [])) := same_upd no
    have eo : (upd H1 o (.lst [])) o = some (.lst []) := upd_same
    generalize upd H1 o (.lst []) = H2 at s2 eo ⊢
    refine ⟨_, rfl, p, _, _, _, rfl, rfl, SqT.of (s2 _ _ (s1 _ _ hB.at_)), atI_nat (j := 0) rfl, (a : Int), rfl, by omega, by omega, for_range (lo := 0) (n := ((a : Int)).toNat)
      (fun i σ H' => ∃ (y6 y7 y8 y9 y10 : Option V) (P : List (List Int)), σ = [some (.ref p), some (.ref sc), some (.int 3), some (.int cell), some (.ref r), some (.ref o), y6, y7, y8, y9, y10, none] ∧ Same H1 H' ∧ Rows H' o P ∧ PileOk i b c P)
      ⟨none, none, none, none, none, [], rfl, s2, ⟨[], eo, RowsAt.nil⟩, rfl, fun row h => (nomatch h), fun m u l e => by simp at e⟩ ?_ ?_⟩
    · rintro i σ H3 hi ⟨y6, y7, y8, y9, y10, P, rfl, s3, ⟨as, eO, hA⟩, hP⟩
      have hi : i < a := by omega
      have hasl : as.length = i := by rw [hA.1, hP.1]
      refine ⟨Nat.zero_le _, fun q nq => ?_⟩
      have s4 : Same H3 (upd H3 q (.lst [])) := same_upd nq
      have eq4 : Ints (upd H3 q (.lst [])) q [] := upd_same
      generalize upd H3 q (.lst []) = H4 at s4 eq4 ⊢
      have s34 := s3.trans s4
      refine ⟨_, rfl, p, _, _, _, rfl, rfl, SqT.of (s34 _ _ (s1 _ _ hB.at_)), atI_nat (j := 1) rfl, (b : Int), rfl, by omega, by omega, for_range (lo := 0) (n := ((b : Int)).toNat)
        (fun j σ H' => ∃ (y8 y9 y10 : Option V) (row : List Int), σ = [some (.ref p), some (.ref sc), some (.int 3), some (.int cell), some (.ref r), some (.ref o), some (.int (0 + (i : Int))), some (.ref q), y8, y9, y10, none] ∧ Same H3 H' ∧ Ints H' q row ∧ RowOk j c row ∧ ∀ u, 0 < i → P[i - 1]? = some u → Below u row)
        ⟨y8, y9, y10, [], rfl, s4, eq4, ⟨rfl, fun x h => (nomatch h), .nil⟩, fun u _ _ j x y _ e => by simp at e⟩ ?_ ?_⟩
      · rintro j σ H5 hj ⟨y8, y9, y10, row, rfl, s5, eq5, hRow, hBel⟩
        have hj : j < b := by omega
        have s15 := (s1.trans s3).trans s5
        have hT5 := SqT.of (K := K) (s15 _ _ hB.at_)
        have hmul : ((i * b : Nat) : Int) = (i : Int) * (b : Int) := Int.natCast_mul i b
        have hix : i * b + j < a * b := by
          have : (i + 1) * b ≤ a * b := Nat.mul_le_mul_right b (by omega)
          rw [Nat.add_mul] at this
          omega
        obtain ⟨n0, hn0⟩ := get_of_len (show i * b + j < nums.length by omega)
        -- number
        refine ⟨_, rfl, _, rfl, _, rfl, p, _, _, _, rfl, rfl, hT5, atI_nat (j := 1) rfl, 0 + (i : Int), (b : Int), rfl, rfl, .inl ⟨by omega, by omega⟩, _, rfl, (0 + (i : Int)) * (b : Int), 0 + (j : Int), rfl, rfl, r, _, _, .int n0, rfl, rfl, SqL.of ((s3.trans s5) _ _ hN), ?_, ?_⟩
        · refine at_of (j := i * b + j) ?_ (by rw [List.getElem?_map, hn0]; rfl)
          rw [Int.natCast_add, hmul]
          rw [show (0 : Int) + (i : Int) = (i : Int) by omega, show (0 : Int) + (j : Int) = (j : Int) by omega]
        have hS5 := s15.seq hS
        refine ⟨_, rfl, _, rfl, _, rfl, p, _, _, _, rfl, rfl, hT5, atI_nat (j := 1) rfl, 0 + (i : Int), (b : Int), rfl, rfl, .inl ⟨by omega, by omega⟩, 3, (0 + (i : Int)) * (b : Int), rfl, rfl, _, rfl, _, 0 + (j : Int), rfl, rfl, _, rfl, sc, _, rfl, .inl hS5, _, _, rfl, rfl, _, rfl, ?_⟩
        have ht : True := trivial
        revert ht
        clear hn0
        revert n0
        refine ite_join (R := fun _ => True) ?_ (fun _ _ _ => trivial) (fun t n _ hc => ?_)
        · rintro n -
          -- top = ([box[2]] + [pile[-1][j] for upper in pile[-1:]])[-1]
          have eO5 := s5 _ _ eO
          refine ⟨_, rfl, p, _, _, _, rfl, rfl, hT5, atI_nat (j := 2) rfl, by show 1 ≤ sizeLine; decide, fun t1 nt1 => ?_⟩
          have s6 := s5.trans (same_upd (o := .lst [.int (c : Int)]) nt1)
          have et1 : (upd H5 t1 (.lst [.int (c : Int)])) t1 = some (.lst [.int (c : Int)]) := upd_same
          have eq6 : Ints (upd H5 t1 (.lst [.int (c : Int)])) q row := by
            show (upd H5 t1 _) q = _
            rw [upd_ne (ne_of_none eq5 nt1)]; exact eq5
          generalize upd H5 t1 (.lst [.int (c : Int)]) = H6 at s6 et1 eq6 ⊢
          refine ⟨_, rfl, 1, rfl, _, rfl, o, as.map V.ref, rfl, SqL.of (s6 _ _ eO), fun t2 nt2 => ?_⟩
          rw [cut_last]
          have s7 := s6.trans (same_upd (o := .lst ((as.map V.ref).drop ((as.map V.ref).length - 1))) nt2)
          have et2 : (upd H6 t2 (.lst ((as.map V.ref).drop ((as.map V.ref).length - 1)))) t2 = some (.lst ((as.map V.ref).drop ((as.map V.ref).length - 1))) := upd_same
          have et1' : (upd H6 t2 (.lst ((as.map V.ref).drop ((as.map V.ref).length - 1)))) t1 = some (.lst [.int (c : Int)]) := by rw [upd_ne (ne_of_none et1 nt2)]; exact et1
          have eq7 : Ints (upd H6 t2 (.lst ((as.map V.ref).drop ((as.map V.ref).length - 1)))) q row := by
            show (upd H6 t2 _) q = _
            rw [upd_ne (ne_of_none eq6 nt2)]; exact eq6
          generalize upd H6 t2 (.lst ((as.map V.ref).drop ((as.map V.ref).length - 1))) = H7 at s7 et2 et1' eq7 ⊢
          refine ⟨t2, rfl, ⟨_, SqL.of et2⟩, fun D nD => lc_list (K := K) (a := t2) (xs := (as.map V.ref).drop ((as.map V.ref).length - 1))
            (fun m H' => Same H7 H' ∧ Ints H' D (List.replicate m ((P.getD (i - 1) []).getD j 0))) ⟨same_upd nD, upd_same⟩ (fun m H' _ hP' => SqL.of (hP'.1 _ _ et2)) ?_ ?_⟩
          · rintro m x H8 hx ⟨s8, eD⟩
            refine ⟨rfl, ?_⟩
            have hm : m < (as.map V.ref).length - ((as.map V.ref).length - 1) := by
              have := (List.getElem?_eq_some_iff.mp hx).1
              rw [List.length_drop] at this
              exact this
            rw [List.length_map] at hm
            have hi0 : 0 < i := by omega
            have hea : as[i - 1]? = some (as[i - 1]'(by omega)) := List.getElem?_eq_getElem (by omega)
            have heP : P[i - 1]? = some (P[i - 1]'(by rw [hP.1]; omega)) := List.getElem?_eq_getElem (by rw [hP.1]; omega)
            have hrow := hA.2 (i - 1) _ _ hea heP
            have lrow := (hP.2.1 _ (List.mem_of_getElem? heP)).1
            have eD' : P.getD (i - 1) [] = P[i - 1]'(by rw [hP.1]; omega) := by rw [List.getD_eq_getElem?_getD, heP]; rfl
            generalize as[i - 1]'(by omega) = la at hea hrow
            generalize P[i - 1]'(by rw [hP.1]; omega) = lr at heP hrow lrow eD'
            have q1 : atI (as.map V.ref) (-1) = some (.ref la) := at_neg1 (by rw [List.length_map, hasl, List.getElem?_map, hea]; rfl)
            have q2 : atI (lr.map V.int) (0 + (j : Int)) = some (.int ((P.getD (i - 1) []).getD j 0)) := by
              refine at_of (j := j) (by omega) ?_
              rw [List.getElem?_map, eD', getD_some (show j < lr.length by omega)]; rfl
            refine ⟨_, rfl, 1, rfl, o, _, _, _, rfl, rfl, SqL.of ((s7.trans s8) _ _ eO), q1, _, rfl, la, _, _, _, rfl, rfl, SqL.of (hrow.same (s7.trans s8)), q2, _, eD, ?_, same_new s8 nD, ?_⟩
            · rw [List.length_map, List.length_replicate]
              exact sz (by omega)
            · show (upd H8 D _) D = some (.lst (List.map V.int _))
              rw [upd_same, List.replicate_succ', List.map_append]; rfl
          · rintro H8 ⟨s8, eD⟩
            have hmin : ((as.map V.ref).drop ((as.map V.ref).length - 1)).length = min 1 i := by
              rw [List.length_drop, List.length_map, hasl]; omega
            rw [hmin] at eD
            obtain ⟨tp, htp, tp0, tpc, tpB⟩ := top_of hP hj
            have s78 := s7.trans s8
            have eq8 : Ints H8 q row := eq7.same s8
            refine ⟨t1, D, _, _, rfl, rfl, s8 _ _ et1', eD, ?_, fun t3 nt3 => ?_⟩
            · rw [List.length_map, List.length_replicate]
              show 1 + min 1 i ≤ sizeLine
              exact szl (by omega)
            have s9 := s78.trans (same_upd (o := .lst ([V.int (c : Int)] ++ (List.replicate (min 1 i) ((P.getD (i - 1) []).getD j 0)).map V.int)) nt3)
            have et3 : (upd H8 t3 (.lst ([V.int (c : Int)] ++ (List.replicate (min 1 i) ((P.getD (i - 1) []).getD j 0)).map V.int))) t3 = some (.lst (((c : Int) :: List.replicate (min 1 i) ((P.getD (i - 1) []).getD j 0)).map V.int)) := upd_same
            have eq9 : Ints (upd H8 t3 (.lst ([V.int (c : Int)] ++ (List.replicate (min 1 i) ((P.getD (i - 1) []).getD j 0)).map V.int))) q row := by
              show (upd H8 t3 _) q = _
              rw [upd_ne (ne_of_none eq8 nt3)]; exact eq8
            generalize upd H8 t3 (.lst ([V.int (c : Int)] ++ (List.replicate (min 1 i) ((P.getD (i - 1) []).getD j 0)).map V.int)) = H9 at s9 et3 eq9 ⊢
            refine ⟨1, rfl, t3, _, _, .int tp, rfl, rfl, SqL.of et3, at_neg1 (by rw [List.length_map, List.getElem?_map, htp]; rfl), ?_⟩
            -- top = min([top] + row[-1:])
            refine ⟨_, rfl, by show 1 ≤ sizeLine; decide, fun t4 nt4 => ?_⟩
            have s10 := s9.trans (same_upd (o := .lst [.int tp]) nt4)
            have et4 : (upd H9 t4 (.lst [.int tp])) t4 = some (.lst [.int tp]) := upd_same
            have eq10 : Ints (upd H9 t4 (.lst [.int tp])) q row := by
              show (upd H9 t4 _) q = _
              rw [upd_ne (ne_of_none eq9 nt4)]; exact eq9
            generalize upd H9 t4 (.lst [.int tp]) = H10 at s10 et4 eq10 ⊢
            refine ⟨_, rfl, 1, rfl, _, rfl, q, row.map V.int, rfl, SqL.of eq10, fun t5 nt5 => ?_⟩
            rw [cut_last]
            have s11 := s10.trans (same_upd (o := .lst ((row.map V.int).drop ((row.map V.int).length - 1))) nt5)
            have et5 : (upd H10 t5 (.lst ((row.map V.int).drop ((row.map V.int).length - 1)))) t5 = some (.lst ((row.map V.int).drop ((row.map V.int).length - 1))) := upd_same
            have et4' : (upd H10 t5 (.lst ((row.map V.int).drop ((row.map V.int).length - 1)))) t4 = some (.lst [.int tp]) := by rw [upd_ne (ne_of_none et4 nt5)]; exact et4
            have eq11 : Ints (upd H10 t5 (.lst ((row.map V.int).drop ((row.map V.int).length - 1)))) q row := by
              show (upd H10 t5 _) q = _
              rw [upd_ne (ne_of_none eq10 nt5)]; exact eq10
            generalize upd H10 t5 (.lst ((row.map V.int).drop ((row.map V.int).length - 1))) = H11 at s11 et5 et4' eq11 ⊢
            have hrl := hRow.1
            have edr : (row.map V.int).drop ((row.map V.int).length - 1) = (row.drop (row.length - 1)).map V.int := by rw [List.length_map, List.map_drop]
            rw [edr] at et5
            refine ⟨t4, t5, _, _, rfl, rfl, et4', et5, ?_, fun t6 nt6 => ?_⟩
            · rw [List.length_map, List.length_drop]
              show 1 + (row.length - (row.length - 1)) ≤ sizeLine
              exact szl (by omega)
            have s12 := s11.trans (same_upd (o := .lst ([V.int tp] ++ (row.drop (row.length - 1)).map V.int)) nt6)
            have et6 : (upd H11 t6 (.lst ([V.int tp] ++ (row.drop (row.length - 1)).map V.int))) t6 = some (.lst ((tp :: row.drop (row.length - 1)).map V.int)) := upd_same
            have eq12 : Ints (upd H11 t6 (.lst ([V.int tp] ++ (row.drop (row.length - 1)).map V.int))) q row := by
              show (upd H11 t6 _) q = _
              rw [upd_ne (ne_of_none eq11 nt6)]; exact eq11
            generalize upd H11 t6 (.lst ([V.int tp] ++ (row.drop (row.length - 1)).map V.int)) = H12 at s12 et6 eq12 ⊢
            refine ⟨t6, _, rfl, SqL.of et6, Nat.zero_lt_succ _, fun m hm hmin => ?_⟩
            have m0 : 0 ≤ m := by
              rcases List.mem_cons.mp hm with e | e
              · omega
              · exact (hRow.2.1 m (List.mem_of_mem_drop e)).1
            have mt : m ≤ tp := hmin tp List.mem_cons_self
            have mr : ∀ z ∈ row.drop (row.length - 1), m ≤ z := fun z hz => hmin z (List.mem_cons_of_mem _ hz)
            obtain ⟨v, hv, v0, vm⟩ := menu_of n m m0
            have hn4 := Int.emod_nonneg n (show (4 : Int) ≠ 0 by decide)
            -- row.append(top - [..][number % 4])
            refine ⟨_, rfl, .inl ⟨rfl, _, SqL.of eq12⟩, _, rfl, _, rfl, 1, m, rfl, _, rfl, n, 4, rfl, rfl, ⟨by decide, by decide⟩, _, rfl, m, 1, rfl, rfl, n / 4, m + 1, rfl, rfl, (by show 0 < m + 1; omega), (by show 4 ≤ sizeLine; decide), fun t7 nt7 => ?_⟩
            have eq13 : (upd H12 t7 (.lst [V.int 0, V.int 0, V.int (if m < 1 then m else 1), V.int (n / 4 % (m + 1))])) q = some (.lst (row.map V.int)) := by
              rw [upd_ne (ne_of_none eq12 nt7)]; exact eq12
            have s13 := s12.trans (same_upd (o := .lst [V.int 0, V.int 0, V.int (if m < 1 then m else 1), V.int (n / 4 % (m + 1))]) nt7)
            refine ⟨_, rfl, n, 4, rfl, rfl, (by show (0 : Int) < 4; decide), t7, _, _, .int v, rfl, rfl, SqL.of upd_same, at_of (j := (n % 4).toNat) (by omega) hv, m, v, rfl, rfl, q, _, _, rfl, rfl, eq13, ?_, _, _, _, row ++ [m - v], rfl, same_new s13 nq, ?_, row_snoc hRow (by omega) (by omega) (fun z hz => by have := mr z hz; omega), fun u h0 hu => below_snoc (hBel u h0 hu) (by rw [hrl]; exact tpB u h0 hu) (by omega)⟩
            · rw [List.length_map, hrl]
              exact sz (by omega)
            · show (upd _ q _) q = some (.lst (List.map V.int _))
              rw [upd_same, List.map_append]; rfl
        · have hc' := of_decide_eq_true hc
          rw [List.length_map] at hc'
          have hlt : 3 + i * b + j < ns.length := by
            have e1 : (3 : Int) + (0 + (i : Int)) * (b : Int) + (0 + (j : Int)) = ((3 + i * b + j : Nat) : Int) := by
              rw [Int.natCast_add, Int.natCast_add, hmul]
              rw [show (0 : Int) + (i : Int) = (i : Int) by omega, show (0 : Int) + (j : Int) = (j : Int) by omega]
              rfl
            rw [e1] at hc'
            omega
          obtain ⟨n1, hn1⟩ := get_of_len hlt
          refine ⟨_, rfl, _, rfl, _, rfl, _, rfl, p, _, _, _, rfl, rfl, hT5, atI_nat (j := 1) rfl, 0 + (i : Int), (b : Int), rfl, rfl, .inl ⟨by omega, by omega⟩, 3, (0 + (i : Int)) * (b : Int), rfl, rfl, _, rfl, _, 0 + (j : Int), rfl, rfl, sc, _, _, .int n1, rfl, rfl, hS5, ?_, t n1 trivial⟩
          refine at_of (j := 3 + i * b + j) ?_ (by rw [List.getElem?_map, hn1]; rfl)
          rw [Int.natCast_add, Int.natCast_add, hmul]
          rw [show (0 : Int) + (i : Int) = (i : Int) by omega, show (0 : Int) + (j : Int) = (j : Int) by omega]
          rfl
      · rintro σ H5 ⟨y8, y9, y10, row, rfl, s5, eq5, hRow, hBel⟩
        rw [show ((b : Int)).toNat = b by omega] at hRow
        -- pile.append(row)
        have eO5 := s5 _ _ eO
        have qo : q ≠ o := (ne_of_none eO nq).symm
        refine ⟨_, rfl, .inl ⟨rfl, _, SqL.of eO5⟩, _, rfl, o, _, _, rfl, rfl, eO5, ?_, _, _, _, _, _, P ++ [row], rfl, same_new (s3.trans s5) no, rows_push eO5 (hA.same s5) eq5 qo, pile_snoc hP hRow hBel⟩
        rw [List.length_map]
        exact sz (by omega)
    · rintro σ H3 ⟨y6, y7, y8, y9, y10, P, rfl, s3, hR, hP⟩
      rw [show ((a : Int)).toNat = a by omega] at hP
      exact ⟨_, rfl, k P o H3 (s1.trans s3) hP hR⟩
end
end CP

namespace CP
open PySem PySem.Spec PyProof.Rows L2 TL CPM
theorem eDR : (Str.ofString "dr") = S [100, 114] := by decide +kernel
/-- two ways of an if go on as one, whatever turned -/
theorem ite_joinG {α : Type} {c : α → Prop} [∀ n, Decidable (c n)] {A B R0 R : α → Prop} (tail : ∀ n, R n → B n) (h0 : ∀ n, R0 n → ¬ c n → R n) (hA : (∀ n, R n → B n) → ∀ n, R0 n → c n → A n) : ∀ n, R0 n → if c n then A n else B n := by
  intro n r
  by_cases h : c n
  · rw [if_pos h]; exact hA tail n r h
  · rw [if_neg h]; exact tail n (h0 n r h)
section
variable {X : Cx}
/-- a rest, as a letter -/
theorem op_modL : OpR X (binaryOp .Mod) (fun x y H Q => ∃ i j : Int, x = .int i ∧ y = .int j ∧ 0 < j ∧ ∀ r : Int, 0 ≤ r → r < j → Q (.int r) H) := by
  intro pins s σ H x y v u Q I rx ry h
  obtain ⟨i, j, rfl, rfl, hj, q⟩ := h
  exact op_mod pins s σ H _ _ v u Q I rx ry ⟨i, j, rfl, rfl, hj, q _ (Int.emod_nonneg i (by omega)) (Int.emod_lt_of_pos i hj)⟩
theorem cut_to (w : List Nat) (k : Nat) : cutS (S w) none (some (k : Int)) = S (w.take k) := by
  unfold cutS
  rw [HT.sIx_none, HT.sIx_nat, S_len]
  show S ((w.drop 0).take (min k w.length - 0)) = _
  rw [List.drop_zero, Nat.sub_zero]
  congr 1
  by_cases h : k ≤ w.length
  · rw [Nat.min_eq_left h]
  · rw [Nat.min_eq_right (by omega), List.take_of_length_le (Nat.le_refl _), List.take_of_length_le (by omega)]
theorem cut_from (w : List Nat) (k : Nat) : cutS (S w) (some (k : Int)) none = S (w.drop k) := by
  unfold cutS
  rw [HT.sIx_none, HT.sIx_nat, S_len]
  show S ((w.drop (min k w.length)).take (w.length - min k w.length)) = _
  congr 1
  by_cases h : k ≤ w.length
  · rw [Nat.min_eq_left h, List.take_of_length_le (by rw [List.length_drop]; exact Nat.le_refl _)]
  · rw [Nat.min_eq_right (by omega), List.drop_length, List.drop_of_length_le (by omega)]
    simp
theorem sl_S : SlR X (fun x lo hi H Q => ∃ w : List Nat, x = .str (S w) ∧ w.length ≤ 1000 ∧ ((∃ k : Nat, lo = none ∧ hi = some (k : Int) ∧ Q (vT (w.take k)) H) ∨ ∃ k : Nat, lo = some (k : Int) ∧ hi = none ∧ Q (vT (w.drop k)) H)) := by
  intro pins s σ H x v vl vu lo hi sl Q I rx hs pl pu h
  obtain ⟨w, rfl, hl, h⟩ := h
  refine sl_str pins s σ H _ v vl vu lo hi sl Q I rx hs pl pu ⟨S w, rfl, by rw [S_len]; exact szl hl, ?_⟩
  rcases h with ⟨k, rfl, rfl, q⟩ | ⟨k, rfl, rfl, q⟩
  · rw [cut_to]; exact q
  · rw [cut_from]; exact q
theorem ix_S : IxR X (fun x y H Q => ∃ (w : List Nat) (j c : Nat) (i : Int), x = .str (S w) ∧ y = .int i ∧ i = (j : Int) ∧ w.length ≤ 1000 ∧ w[j]? = some c ∧ Q (vT [c]) H) := by
  intro value slice pins s σ H x y v u Q I rx ry h hs
  obtain ⟨w, j, c, i, rfl, rfl, hi, hl, hc, q⟩ := h
  exact ix_str value slice pins s σ H _ _ v u Q I rx ry ⟨S w, i, c, rfl, rfl, by rw [S_len]; exact szl hl, by rw [hi]; exact atI_nat hc, q⟩ hs
end
theorem ixN_nat {n j : Nat} {i : Int} (e : i = (j : Int)) (h : j < n) : ixN n i = some j := by
  subst e
  unfold ixN
  rw [if_pos (by omega), if_pos (by omega), Int.toNat_natCast]
/-- two neighbouring signs exchanged: the same signs -/
theorem exch_ok {a b : Nat} {w : List Nat} (h : WayOk a b w) {k x y : Nat} (hx : w[k]? = some x) (hy : w[k + 1]? = some y) : WayOk a b (w.take k ++ [y] ++ [x] ++ w.drop (k + 2)) := by
  have hk : k + 1 < w.length := (List.getElem?_eq_some_iff.mp hy).1
  have e : w = w.take k ++ x :: y :: w.drop (k + 2) := by
    conv => lhs; rw [← List.take_append_drop k w]
    congr 1
    rw [List.drop_eq_getElem_cons (by omega), List.drop_eq_getElem_cons hk, (List.getElem?_eq_some_iff.mp hx).2, (List.getElem?_eq_some_iff.mp hy).2]
  have hp : (w.take k ++ [y] ++ [x] ++ w.drop (k + 2)).Perm w := by
    conv => rhs; rw [e]
    simp only [List.append_assoc]
    refine List.Perm.append_left _ ?_
    exact List.Perm.swap x y _
  exact ⟨by rw [hp.length_eq]; exact h.1, by rw [hp.count_eq]; exact h.2.1, by rw [hp.count_eq]; exact h.2.2⟩
abbrev sDrawn : Stmt := top 32
abbrev sExch : Stmt := top 33
abbrev sSome : Stmt := top 34
theorem scDrawn : FnScope ["box", "cell", "found", "left", "number", "at"] ["box", "cell"] (defScope sDrawn) := ⟨rfl, rfl, rfl, by decide +kernel, rfl, by decide +kernel, by decide +kernel⟩
theorem scExch : FnScope ["way", "number", "at"] ["way", "number"] (defScope sExch) := ⟨rfl, rfl, rfl, by decide +kernel, rfl, by decide +kernel, by decide +kernel⟩
theorem scSome : FnScope ["box", "ways", "numbers", "found", "number", "k"] ["box", "ways", "numbers"] (defScope sSome) := ⟨rfl, rfl, rfl, by decide +kernel, rfl, by decide +kernel, by decide +kernel⟩
def spDrawn : Sp := fun vs H Q _ => ∃ (p : Addr) (a b c : Nat) (cell : Int), vs = [.ref p, .int cell] ∧ Bx H p a b c ∧ ∀ w H', Same H H' → WayOk a b w → Q (vT w) H'
def spExch : Sp := fun vs H Q _ => ∃ (a b : Nat) (w : List Nat) (n : Int), vs = [vT w, .int n] ∧ WayOk a b w ∧ 2 ≤ a + b ∧ a + b ≤ 12 ∧ ∀ w', WayOk a b w' → Q (vT w') H
def spSome : Sp := fun vs H Q _ => ∃ (p q r : Addr) (a b c : Nat) (ws : List (List Nat)) (ns : List Int), vs = [.ref p, .ref q, .ref r] ∧ Bx H p a b c ∧ Txts H q ws ∧ WaysOk a b c ws ∧ Ints H r ns ∧ ∀ ws' o H', Same H H' → WaysOk a b c ws' → Txts H' o ws' → Q (.ref o) H'
theorem waysOk_set {a b c : Nat} {ws : List (List Nat)} (h : WaysOk a b c ws) {j : Nat} {w : List Nat} (hw : WayOk a b w) : WaysOk a b c (ws.set j w) := by
  refine ⟨by rw [List.length_set]; exact h.1, fun x hx => ?_⟩
  rcases List.mem_or_eq_of_mem_set hx with q | q
  · exact h.2 x q
  · rw [q]; exact hw
section
variable {Pg : Program} {w : World} {K : PySem.W.Frag} {mg : Str → Option Value} {base : Heap} {f : Addr} {fd : FuncData}
theorem ok_exch (F : FnP K "_law_exchanged" sExch f fd) (mL : mg "len" = none) : FnOk Pg w K mg base CX0 1 f fd ["way", "number"] spExch := by
  refine F.ok scExch (fun vs H Q E h => ?_) (fun cdv A outer s H vs Q E hr h => ?_)
  · obtain ⟨a, b, w, n, rfl, _⟩ := h
    rfl
  · obtain ⟨a, b, w, n, rfl, hW, h2, h12, k⟩ := h
    refine ⟨_, PSs.nox (pss_cons (ps_set (i := 2) scExch.nd rfl (.inl rfl) (pe_op op_modL (pv 1) (pe_op op_sub (pe_callB call_len_str (by rfl) mL PySem.boot_len (pa_cons (pv 0) pa_nil)) pe_int)))
      (pss_one (ps_ret (pe_op op_addS (pe_op op_addS (pe_op op_addS (pe_slice sl_S (pv 0) po_none (po_some (pv 2))) (pe_ix ix_S (pv 0) (pe_op op_add (pv 2) pe_int) (fun _ _ => rfl))) (pe_ix ix_S (pv 0) (pv 2) (fun _ _ => rfl))) (pe_slice sl_S (pv 0) (po_some (pe_op op_add (pv 2) pe_int)) po_none))))), ?_⟩
    have hl := hW.1
    refine ⟨_, rfl, _, rfl, S w, rfl, by rw [S_len]; exact szl (by omega), ((S w).length : Int), 1, rfl, rfl, n, ((S w).length : Int) - 1, rfl, rfl, by rw [S_len]; omega, fun at' h0 h1 => ?_⟩
    rw [S_len] at h1
    generalize hk : at'.toNat = j
    have ej : at' = (j : Int) := by omega
    have hx : w[j]? = some (w[j]'(by omega)) := List.getElem?_eq_getElem (by omega)
    have hy : w[j + 1]? = some (w[j + 1]'(by omega)) := List.getElem?_eq_getElem (by omega)
    generalize w[j]'(by omega) = x at hx
    generalize w[j + 1]'(by omega) = y at hy
    have hd := exch_ok hW hx hy
    have hdl := hd.1
    simp only [List.length_append, List.length_cons, List.length_nil] at hdl
    refine ⟨_, rfl, _, rfl, at', rfl, w, rfl, by omega, .inl ⟨j, rfl, by rw [ej], _, rfl, _, rfl, at', 1, rfl, rfl, w, j + 1, y, at' + 1, rfl, rfl, by omega, by omega, hy, w.take j, [y], rfl, rfl, ?_, _, rfl, _, rfl, w, j, x, at', rfl, rfl, ej, by omega, hx, w.take j ++ [y], [x], rfl, rfl, ?_, _, rfl, _, rfl, at', 2, rfl, rfl, at' + 2, rfl, w, rfl, by omega, .inr ⟨j + 2, ?_, rfl, w.take j ++ [y] ++ [x], w.drop (j + 2), rfl, rfl, ?_, k _ hd⟩⟩⟩
    · show (w.take j).length + 1 ≤ 1000; omega
    · rw [List.length_append]; show (w.take j).length + 1 + 1 ≤ 1000; omega
    · show some (at' + 2) = some ((j + 2 : Nat) : Int)
      congr 1; omega
    · rw [List.length_append, List.length_append]; show (w.take j).length + 1 + 1 + (w.drop (j + 2)).length ≤ 1000; omega
theorem ok_drawn (F : FnP K "_law_drawn_way" sDrawn f fd) {fS : Addr} {fdS : FuncData} (CS : CalAt Pg w K mg base CX0 2 "_law_numbers" ["cell", "many"] spNumbers fS fdS) : FnOk Pg w K mg base CX0 3 f fd ["box", "cell"] spDrawn := by
  refine F.ok scDrawn (fun vs H Q E h => ?_) (fun cdv A outer s H vs Q E hr h => ?_)
  · obtain ⟨p, a, b, c, cell, rfl, _⟩ := h
    rfl
  · obtain ⟨p, a, b, c, cell, rfl, hB, k⟩ := h
    refine ⟨_, PSs.nox (pss_cons (ps_set (i := 2) scDrawn.nd rfl (.inl rfl) pe_str)
      (pss_cons (ps_set (i := 3) scDrawn.nd rfl (.inl rfl) (pe_lst (pa_cons (pe_ix ix_tup (pv 0) pe_int (fun _ _ => rfl)) (pa_cons (pe_ix ix_tup (pv 0) pe_int (fun _ _ => rfl)) pa_nil))))
      (pss_cons (ps_for PassesOwn.never rfl (pi_list (pe_call CS.ok hr (by rfl) CS.g CS.kp CS.b .nil pass0 (pa_cons (pv 1) (pa_cons (pe_op op_add (pe_ix ix_tup (pv 0) pe_int (fun _ _ => rfl)) (pe_ix ix_tup (pv 0) pe_int (fun _ _ => rfl))) pa_nil)))) (pg_name (i := 4) scDrawn.nd rfl (.inl rfl))
        (pss_cons (ps_set (i := 5) scDrawn.nd rfl (.inl rfl) (pe_op op_modL (pe_op op_fdiv (pv 4) pe_int) pe_int))
        (pss_cons (ps_if (pt_cmpR op_eq (pe_ix ix_list (pv 3) (pv 5) (fun _ _ => rfl)) pe_int (nomark _)) (pss_one (ps_set (i := 5) scDrawn.nd rfl (.inl rfl) (pe_op op_sub pe_int (pv 5)))) pss_nil)
        (pss_cons (ps_asg (pe_op op_sub (pe_ix ix_list (pv 3) (pv 5) (fun _ _ => rfl)) pe_int) (pg_sub (pv 3) (pv 5) set_list))
        (pss_one (ps_set (i := 2) scDrawn.nd rfl (.inl rfl) (pe_op op_addS (pv 2) (pe_ix ix_S pe_str (pv 5) (fun _ _ => rfl)))))))))
      (pss_one (ps_ret (pv 2)))))), ?_⟩
    have ha6 := hB.a6
    have hb6 := hB.b6
    have hT := SqT.of (K := K) hB.at_
    refine ⟨_, rfl, p, _, _, _, rfl, rfl, hT, atI_nat (j := 0) rfl, _, rfl, p, _, _, _, rfl, rfl, hT, atI_nat (j := 1) rfl, by show 2 ≤ sizeLine; decide, fun l nl => ?_⟩
    have s1 : Same H (upd H l (.lst [.int (a : Int), .int (b : Int)])) := same_upd nl
    have el : (upd H l (.lst [.int (a : Int), .int (b : Int)])) l = some (.lst [.int (a : Int), .int (b : Int)]) := upd_same
    generalize upd H l (.lst [.int (a : Int), .int (b : Int)]) = H1 at s1 el ⊢
    have hT1 := SqT.of (K := K) (s1 _ _ hB.at_)
    refine ⟨_, rfl, _, rfl, p, _, _, _, rfl, rfl, hT1, atI_nat (j := 0) rfl, _, rfl, p, _, _, _, rfl, rfl, hT1, atI_nat (j := 1) rfl, (a : Int), (b : Int), rfl, rfl, cell, a + b, by rw [Int.natCast_add]; rfl, by omega, fun nums r H2 hnl nr s2 hN => ?_⟩
    have el2 := s2 _ _ el
    have rl : r ≠ l := (ne_of_none el nr).symm
    have e0 : some (V.str (Str.ofString "")) = some (vT []) := by rw [eE]; rfl
    refine ⟨r, rfl, ⟨_, SqL.of hN⟩, for_list (K := K) (a := r) (xs := nums.map V.int)
      (fun i σ H' => ∃ (w : List Nat) (x y : Int) (y4 y5 : Option V), σ = [some (.ref p), some (.int cell), some (vT w), some (.ref l), y4, y5] ∧ Bar l H2 H' ∧ H' l = some (.lst [.int x, .int y]) ∧ 0 ≤ x ∧ 0 ≤ y ∧ w.length = i ∧ (w.count 100 : Int) = a - x ∧ (w.count 114 : Int) = b - y ∧ x + y = (a : Int) + b - i)
      ⟨[], (a : Int), (b : Int), none, none, ?_, Bar.refl _ _, el2, by omega, by omega, rfl, by simp, by simp, by simp⟩ (fun i σ H' _ ⟨_, _, _, _, _, _, sb, _⟩ => SqL.of (sb _ _ rl hN)) ?_ ?_⟩
    · show [some (V.ref p), some (V.int cell), some (V.str (Str.ofString "")), some (V.ref l), none, none] = _
      rw [e0]
    · rintro i z σ H' hz ⟨w, x, y, y4, y5, rfl, sb, eL, hx, hy, hwl, hcd, hcr, hxy⟩
      obtain ⟨n, hn, rfl⟩ := get_map hz
      have hi : i < nums.length := (List.getElem?_eq_some_iff.mp hn).1
      refine ⟨_, rfl, n, 3, rfl, rfl, ⟨by decide, by decide⟩, n / 3, 2, rfl, rfl, by decide, fun at' h0 h1 => ?_⟩
      have h01 : 0 ≤ at' ∧ at' < 2 := ⟨h0, h1⟩
      clear h0 h1
      have hat : ∀ at' : Int, 0 ≤ at' ∧ at' < 2 → atI [V.int x, V.int y] at' = some (.int (if at' = 0 then x else y)) := fun at' h => by
        by_cases e : at' = 0
        · subst e; rfl
        · have e : at' = 1 := by omega
          subst e; rfl
      refine ⟨_, rfl, _, rfl, l, _, _, _, rfl, rfl, SqL.of eL, hat at' h01, rfl, _, rfl, ?_⟩
      revert h01
      revert at'
      refine ite_join (R := fun m => (m = 0 ∧ 0 < x) ∨ (m = 1 ∧ 0 < y)) ?_ (fun m h hc => ?_) (fun t m h hc => ?_)
      · intro m hm
        have hm2 : 0 ≤ m ∧ m < 2 := by omega
        have hz0 : 0 < (if m = 0 then x else y) := by
          rcases hm with ⟨e, h⟩ | ⟨e, h⟩
          · rw [if_pos e]; exact h
          · rw [if_neg (by omega)]; exact h
        refine ⟨_, rfl, _, rfl, l, _, _, _, rfl, rfl, SqL.of eL, hat m hm2, (if m = 0 then x else y), 1, rfl, rfl, ?_⟩
        rcases hm with ⟨rfl, h⟩ | ⟨rfl, h⟩
        · refine ⟨_, rfl, _, rfl, l, _, 0, 0, rfl, rfl, eL, rfl, ?_⟩
          refine ⟨_, rfl, _, rfl, [100, 114], 0, 100, 0, congrArg V.str eDR, rfl, rfl, by decide, rfl, w, [100], rfl, rfl, ?_, w ++ [100], x - 1, y, _, _, rfl, sb.upd, upd_same, by omega, hy, ?_, ?_, ?_, ?_⟩
          · show w.length + 1 ≤ 1000; omega
          · rw [List.length_append, hwl]; rfl
          · rw [List.count_append]; simp; omega
          · rw [List.count_append]; simp; omega
          · omega
        · refine ⟨_, rfl, _, rfl, l, _, 1, 1, rfl, rfl, eL, rfl, ?_⟩
          refine ⟨_, rfl, _, rfl, [100, 114], 1, 114, 1, congrArg V.str eDR, rfl, rfl, by decide, rfl, w, [114], rfl, rfl, ?_, w ++ [114], x, y - 1, _, _, rfl, sb.upd, upd_same, hx, by omega, ?_, ?_, ?_, ?_⟩
          · show w.length + 1 ≤ 1000; omega
          · rw [List.length_append, hwl]; rfl
          · rw [List.count_append]; simp; omega
          · rw [List.count_append]; simp; omega
          · omega
      · have hc : ¬ (if m = 0 then x else y) = 0 := fun e => hc (dT' (by rw [e]))
        by_cases e : m = 0
        · rw [if_pos e] at hc; omega
        · rw [if_neg e] at hc; omega
      · have hc : (if m = 0 then x else y) = 0 := V.int.inj (of_decide_eq_true hc)
        refine ⟨_, rfl, 1, m, rfl, rfl, t (1 - m) ?_⟩
        by_cases e : m = 0
        · rw [if_pos e] at hc; omega
        · rw [if_neg e] at hc; omega
    · rintro σ H' ⟨w, x, y, y4, y5, rfl, sb, eL, hx, hy, hwl, hcd, hcr, hxy⟩
      rw [List.length_map, hnl] at hwl hxy
      rw [Int.natCast_add] at hxy
      refine ⟨_, rfl, k w H' (fun b' o e => ?_) ⟨hwl, by omega, by omega⟩⟩
      exact sb _ _ (ne_of_none e nl) (s2 _ _ (s1 _ _ e))
theorem ok_some (F : FnP K "_law_some_ways" sSome f fd) (mLi : mg "list" = none) (mL : mg "len" = none) {fE : Addr} {fdE : FuncData} (CE : CalAt Pg w K mg base CX0 1 "_law_exchanged" ["way", "number"] spExch fE fdE)
    {fD : Addr} {fdD : FuncData} (CD : CalAt Pg w K mg base CX0 3 "_law_drawn_way" ["box", "cell"] spDrawn fD fdD) : FnOk Pg w K mg base CX0 4 f fd ["box", "ways", "numbers"] spSome := by
  refine F.ok scSome (fun vs H Q E h => ?_) (fun cdv A outer s H vs Q E hr h => ?_)
  · obtain ⟨p, q, r, a, b, c, ws, ns, rfl, _⟩ := h
    rfl
  · obtain ⟨p, q, r, a, b, c, ws, ns, rfl, hB, hT, hW, hN, k⟩ := h
    have hr1 := hr.mono (show 1 ≤ 3 by decide)
    refine ⟨_, PSs.nox (pss_cons (ps_set (i := 3) scSome.nd rfl (.inl rfl) (pe_callTy call_list_of (by rfl) mLi (by decide +kernel) (pa_cons (pv 1) pa_nil)))
      (pss_cons (ps_for PassesOwn.never rfl (pi_list (pv 2)) (pg_name (i := 4) scSome.nd rfl (.inl rfl))
        (pss_cons (ps_set (i := 5) scSome.nd rfl (.inl rfl) (pe_op op_modL (pv 4) (pe_callB call_len_seq (by rfl) mL PySem.boot_len (pa_cons (pv 3) pa_nil))))
        (pss_cons (ps_if (pt_cmpR op_gt (pe_op op_modL (pe_op op_fdiv (pv 4) pe_int) pe_int) pe_int (nomark _))
          (pss_one (ps_asg (pe_call CE.ok hr1 (by rfl) CE.g CE.kp CE.b .nil pass0 (pa_cons (pe_ix ix_list (pv 3) (pv 5) (fun _ _ => rfl)) (pa_cons (pe_op op_fdiv (pv 4) pe_int) pa_nil))) (pg_sub (pv 3) (pv 5) set_list))) pss_nil)
        (pss_one (ps_if (pt_cmpR op_eq (pe_op op_modL (pe_op op_fdiv (pv 4) pe_int) pe_int) pe_int (nomark _))
          (pss_one (ps_asg (pe_call CD.ok hr (by rfl) CD.g CD.kp CD.b .nil pass0 (pa_cons (pv 0) (pa_cons (pe_op op_fdiv (pv 4) pe_int) pa_nil))) (pg_sub (pv 3) (pv 5) set_list))) pss_nil)))))
      (pss_one (ps_ret (pv 3))))), ?_⟩
    have ha6 := hB.a6
    have hb6 := hB.b6
    have ha1 := hB.a1
    have hb1 := hB.b1
    have hc1 := hB.c1
    refine ⟨_, rfl, q, _, rfl, .inl (SqL.of hT), fun o no => ?_⟩
    have s1 : Same H (upd H o (.lst (ws.map vT))) := same_upd no
    have eo : Txts (upd H o (.lst (ws.map vT))) o ws := upd_same
    generalize upd H o (.lst (ws.map vT)) = H1 at s1 eo ⊢
    refine ⟨_, rfl, r, rfl, ⟨_, SqL.of (hN.same s1)⟩, for_list (K := K) (a := r) (xs := ns.map V.int)
      (fun i σ H' => ∃ (y4 y5 : Option V), σ = [some (.ref p), some (.ref q), some (.ref r), some (.ref o), y4, y5] ∧ Same H H' ∧ ∃ ws', Txts H' o ws' ∧ WaysOk a b c ws')
      ⟨none, none, rfl, s1, ws, eo, hW⟩ (fun i σ H' _ ⟨_, _, _, sm, _⟩ => SqL.of (hN.same sm)) ?_ ?_⟩
    · rintro i z σ H' hz ⟨y4, y5, rfl, sm, ws1, hT1, hW1⟩
      obtain ⟨n, hn, rfl⟩ := get_map hz
      have hl1 : (ws1.map vT).length = c := by rw [List.length_map]; exact hW1.1
      refine ⟨_, rfl, _, rfl, o, _, rfl, .inl (SqL.of hT1), n, _, rfl, rfl, by rw [hl1]; omega, fun kk k0 k1 => ?_⟩
      rw [hl1] at k1
      generalize hj : kk.toNat = j
      have ej : kk = (j : Int) := by omega
      have hjc : j < c := by omega
      refine ⟨_, rfl, n, 7, rfl, rfl, ⟨by decide, by decide⟩, n / 7, 4, rfl, rfl, by decide, fun r1 _ _ => ?_⟩
      refine ⟨r1, 0, rfl, rfl, _, rfl, ?_⟩
      have hall : Same H H' ∧ ∃ ws', Txts H' o ws' ∧ WaysOk a b c ws' := ⟨sm, ws1, hT1, hW1⟩
      clear hT1 hW1 hl1 sm
      revert hall
      revert H'
      refine ite_joinG (R := fun H' => Same H H' ∧ ∃ ws', Txts H' o ws' ∧ WaysOk a b c ws') ?_ (fun H' h _ => h) (fun t H' h _ => ?_)
      · rintro H' ⟨sm, ws1, hT1, hW1⟩
        refine ⟨_, rfl, n, 7, rfl, rfl, ⟨by decide, by decide⟩, n / 7, 4, rfl, rfl, by decide, fun r2 _ _ => ?_⟩
        refine ⟨rfl, _, rfl, ite2 (fun _ => ?_) (fun _ => ⟨_, _, rfl, sm, ws1, hT1, hW1⟩)⟩
        refine ⟨_, rfl, _, rfl, n, 28, rfl, rfl, ⟨by decide, by decide⟩, p, a, b, c, n / 28, rfl, hB.same sm, fun w H2 s2 hw => ?_⟩
        have hT2 := hT1.same s2
        refine ⟨_, rfl, _, rfl, o, _, kk, j, rfl, rfl, hT2, ixN_nat ej (by rw [List.length_map, hW1.1]; exact hjc), _, _, rfl, same_new (sm.trans s2) no, ws1.set j w, ?_, waysOk_set hW1 hw⟩
        show (upd H2 o _) o = some (.lst (List.map vT _))
        rw [upd_same, List.map_set]
      · obtain ⟨sm, ws1, hT1, hW1⟩ := h
        have hwj : ws1[j]? = some (ws1[j]'(by rw [hW1.1]; exact hjc)) := List.getElem?_eq_getElem (by rw [hW1.1]; exact hjc)
        generalize ws1[j]'(by rw [hW1.1]; exact hjc) = wj at hwj
        refine ⟨_, rfl, _, rfl, o, _, _, _, rfl, rfl, SqL.of hT1, at_of (j := j) ej (by rw [List.getElem?_map, hwj]; rfl), _, rfl, n, 28, rfl, rfl, ⟨by decide, by decide⟩, a, b, wj, n / 28, rfl, hW1.2 wj (List.mem_of_getElem? hwj), by omega, by omega, fun w hw => ?_⟩
        refine ⟨_, rfl, _, rfl, o, _, kk, j, rfl, rfl, hT1, ixN_nat ej (by rw [List.length_map, hW1.1]; exact hjc), t _ ⟨same_new sm no, ws1.set j w, ?_, waysOk_set hW1 hw⟩⟩
        show (upd H' o _) o = some (.lst (List.map vT _))
        rw [upd_same, List.map_set]
    · rintro σ H' ⟨y4, y5, rfl, sm, ws1, hT1, hW1⟩
      exact ⟨_, rfl, k ws1 o H' sm hW1 hT1⟩
end
end CP

namespace CP
open PySem PySem.Spec PyProof.Rows L2 TL CPM
abbrev sPileBy : Stmt := top 35
abbrev sAgree : Stmt := top 36
abbrev sLaw : Stmt := top 37
theorem scPileBy : FnScope ["box", "ways", "found"] ["box", "ways"] (defScope sPileBy) := ⟨rfl, rfl, rfl, by decide +kernel, rfl, by decide +kernel, by decide +kernel⟩
theorem scAgree : FnScope ["box", "ways", "apart", "pile"] ["box", "ways"] (defScope sAgree) := ⟨rfl, rfl, rfl, by decide +kernel, rfl, by decide +kernel, by decide +kernel⟩
theorem scLaw : FnScope ["script", "box", "pile", "ways", "numbers", "some"] ["script"] (defScope sLaw) := ⟨rfl, rfl, rfl, by decide +kernel, rfl, by decide +kernel, by decide +kernel⟩
def spPileBy : Sp := fun vs H Q _ => ∃ (p q : Addr) (a b c : Nat) (ws : List (List Nat)), vs = [.ref p, .ref q] ∧ Bx H p a b c ∧ Txts H q ws ∧ WaysOk a b c ws ∧
  (PileOk c a b (ws.map stair) → ∀ r H', Same H H' → Rows H' r (pileL a b (ws.map stair)) → Q (.ref r) H') ∧ (¬ PileOk c a b (ws.map stair) → ∀ H', Same H H' → Q .non H')
def spAgree : Sp := fun vs H Q _ => ∃ (p q : Addr) (a b c : Nat) (ws : List (List Nat)), vs = [.ref p, .ref q] ∧ Bx H p a b c ∧ Txts H q ws ∧ WaysOk a b c ws ∧ ∀ H', Same H H' → Q (.bl true) H'
def spLaw (K : PySem.W.Frag) : Sp := fun vs H Q _ => ∃ (a : Addr) (ns : List Int), vs = [.ref a] ∧ SqL K H a (ns.map V.int) ∧ ∀ H', Q (.bl true) H'
theorem plain_of {a b c : Nat} {ws : List (List Nat)} (h : WaysOk a b c ws) : Plain ws := fun w hw x hx => by
  have h1 := h.2 w hw
  rcases signs_two (w := w) (by rw [h1.1, h1.2.1, h1.2.2]) x hx with e | e <;> omega
theorem cut_ints (ns : List Int) (lo hi : Option Int) : ∃ ms : List Int, cutV (ns.map V.int) lo hi = ms.map V.int := by
  unfold cutV
  rw [← List.map_drop, ← List.map_take]
  exact ⟨_, rfl⟩
section
variable {Pg : Program} {w : World} {K : PySem.W.Frag} {mg : Str → Option Value} {base : Heap} {f : Addr} {fd : FuncData}
theorem ok_pileBy (F : FnP K "_law_pile_by" sPileBy f fd) {C : Addr} (T : ExcT K mg "NoWays" C) {fP : Addr} {fdP : FuncData} (CP : CalAt Pg w K mg base (L2.CX Pg w) 7 "pile_of_ways" ["box", "ways"] (spPileWays C) fP fdP) : FnOk Pg w K mg base CX0 8 f fd ["box", "ways"] spPileBy := by
  refine F.ok scPileBy (fun vs H Q E h => ?_) (fun cdv A outer s H vs Q E hr h => ?_)
  · obtain ⟨p, q, a, b, c, ws, rfl, _⟩ := h
    rfl
  · obtain ⟨p, q, a, b, c, ws, rfl, hB, hT, hW, kY, kN⟩ := h
    refine ⟨_, PSs.nox (pss_cons (ps_set (i := 2) scPileBy.nd rfl (.inl rfl) pe_non)
      (pss_cons (ps_try_only (tb := fun W => tAsg (tCallS (spPileWays C) (WE W) (tCons (tVar 0) (tCons (tVar 1) tNil))) (gName 2)) (ts := fun _ _ _ => tAsg (tC .non) (gName 2)) (Wout := fun _ _ _ _ => False) rfl rfl ⟨rfl, by decide, Or.inl T.g⟩ takes0
        (fun W pn xe tk _ => pss_one (ps_set (i := 2) scPileBy.nd rfl (Or.inl rfl) (by exact (pe_callS CP.ok hr rfl CP.g CP.kp CP.b (fun σ => passAt tk σ) (by exact (pa_cons (pv 0) (pa_cons (pv 1) pa_nil)))))))
        (fun a oe cls d pn hz hf => pss_one (ps_set (i := 2) scPileBy.nd rfl (Or.inl rfl) pe_non)))
      (pss_one (ps_ret (pv 2))))), ?_⟩
    refine ⟨_, rfl, _, rfl, p, q, a, b, c, ws, rfl, hB, hT, hW, fun hP r H1 s1 hR => ⟨_, rfl, kY hP r H1 s1 hR⟩, fun hN H1 s1 => ?_⟩
    exact ⟨true, T.self, fun _ a0 _ => ⟨_, rfl, kN hN H1 s1⟩, fun z => Bool.noConfusion z⟩
theorem ok_agree (F : FnP K "_law_agree" sAgree f fd) (mI : mg "isinstance" = none) (mB : mg "bool" = none)
    {fN : Addr} {fdN : FuncData} (CN : CalAt Pg w K mg base CX0 4 "never_touch" ["box", "ways"] spNever fN fdN) {fW : Addr} {fdW : FuncData} (CW : CalAt Pg w K mg base CX0 6 "are_ways" ["box", "thing"] spAreWays fW fdW)
    {fP : Addr} {fdP : FuncData} (CPB : CalAt Pg w K mg base CX0 8 "_law_pile_by" ["box", "ways"] spPileBy fP fdP) {fI : Addr} {fdI : FuncData} (CI : CalAt Pg w K mg base CX0 4 "is_pile" ["box", "thing"] spIsPile fI fdI)
    {fY : Addr} {fdY : FuncData} (CY : CalAt Pg w K mg base CX0 7 "ways_of" ["box", "pile"] spWays fY fdY) : FnOk Pg w K mg base CX0 9 f fd ["box", "ways"] spAgree := by
  refine F.ok scAgree (fun vs H Q E h => ?_) (fun cdv A outer s H vs Q E hr h => ?_)
  · obtain ⟨p, q, a, b, c, ws, rfl, _⟩ := h
    rfl
  · obtain ⟨p, q, a, b, c, ws, rfl, hB, hT, hW, k⟩ := h
    refine ⟨_, PSs.nox (pss_cons (ps_set (i := 2) scAgree.nd rfl (.inl rfl) (pe_call CN.ok (hr.mono (by decide)) (by rfl) CN.g CN.kp CN.b .nil pass0 (pa_cons (pv 0) (pa_cons (pv 1) pa_nil))))
      (pss_cons (ps_if (PW.pt (pw_or (pt_not (pt_val (pe_callB call_isi (by rfl) mI (by decide +kernel) (pa_cons (pv 2) (pa_cons (pe_bltn (v := .ty "bool") (by rfl) mB (by decide +kernel) rfl) pa_nil)))))
        (pw_or1 (pt_cmpR op_ne (pe_call CW.ok (hr.mono (by decide)) (by rfl) CW.g CW.kp CW.b .nil pass0 (pa_cons (pv 0) (pa_cons (pv 1) pa_nil))) (pv 2) (nomark _))))) (pss_one (ps_ret pe_bl)) pss_nil)
      (pss_cons (ps_set (i := 3) scAgree.nd rfl (.inl rfl) (pe_call CPB.ok hr (by rfl) CPB.g CPB.kp CPB.b .nil pass0 (pa_cons (pv 0) (pa_cons (pv 1) pa_nil))))
      (pss_cons (ps_if (pt_cmp (pc_isN (pv 3))) (pss_one (ps_ret (pe_not (pv 2)))) pss_nil)
      (pss_one (ps_ret (pe_and (pv 2) (pe_and (pe_cmpR op_isBl (pe_call CI.ok (hr.mono (by decide)) (by rfl) CI.g CI.kp CI.b .nil pass0 (pa_cons (pv 0) (pa_cons (pv 3) pa_nil))) pe_bl (nomark _))
        (pe_one (pe_cmpR (op_eqD hr.units) (pe_call CY.ok (hr.mono (by decide)) (by rfl) CY.g CY.kp CY.b .nil pass0 (pa_cons (pv 0) (pa_cons (pv 3) pa_nil))) (pv 1) (nomark _))))))))))), ?_⟩
    refine ⟨_, rfl, _, rfl, p, q, a, b, c, ws, rfl, hB, hT, hW, fun r1 H1 s1 h1 => ?_⟩
    refine ⟨_, rfl, _, _, _, _, _, rfl, .ty _, .base (.bl r1), kBool, true, rfl, iteF ?_⟩
    refine ⟨_, rfl, _, rfl, p, q, a, b, c, ws, rfl, hB.same s1, hT.same s1, hW, fun r2 H2 s2 h2 => ?_⟩
    have hi := touch_iff hW.1 hW.2
    have e12 : r2 = r1 := by
      rw [Bool.eq_iff_iff, h1, h2]
      exact hi.symm
    subst e12
    refine ⟨_, rfl, rfl, _, rfl, ifF (by rw [decide_eq_true rfl]; rfl) ?_⟩
    have s12 := s1.trans s2
    refine ⟨_, rfl, _, rfl, p, q, a, b, c, ws, rfl, hB.same s12, hT.same s12, hW, fun hP r H3 s3 hR => ?_, fun hN H3 s3 => ?_⟩
    · have er : r2 = true := h2.mpr hP
      subst er
      have s13 := s12.trans s3
      refine ⟨_, rfl, _, rfl, iteF ?_⟩
      refine ⟨_, rfl, true, rfl, iteT ?_⟩
      have hQ := pile_ok hP
      refine ⟨_, rfl, _, rfl, p, r, a, b, c, _, rfl, hB.same s13, hR, ⟨hQ.1, hQ.2.1⟩, fun r4 H4 s4 h4 => ?_⟩
      have e4 : r4 = true := h4.mpr hQ
      subst e4
      refine ⟨true, true, rfl, rfl, true, rfl, iteT ?_⟩
      have s14 := s13.trans s4
      refine ⟨_, rfl, _, rfl, p, r, a, b, c, _, rfl, hB.same s14, hR.same s4, hQ, fun o H5 s5 hO => ?_⟩
      rw [ways_back hW hP] at hO
      have s15 := s14.trans s5
      refine ⟨_, rfl, _, _, dpT hO, dpT (hT.same s15), shT _ (plain_of hW), shT _ (plain_of hW), ?_⟩
      rw [eqv_self (shT _ (plain_of hW))]
      exact k H5 s15
    · have er : r2 = false := by
        cases r2 with
        | false => rfl
        | true => exact absurd (h2.mp rfl) hN
      subst er
      exact ⟨_, rfl, _, rfl, iteT ⟨_, rfl, false, rfl, k H3 (s12.trans s3)⟩⟩
theorem ok_law (F : FnP K "law" sLaw f fd) {fB : Addr} {fdB : FuncData} (CB : CalAt Pg w K mg base CX0 3 "_law_box" ["cell", "most", "great"] spBox fB fdB)
    {fC : Addr} {fdC : FuncData} (CC : CalAt Pg w K mg base CX0 1 "_law_cell_at" ["script", "k"] (spCell K) fC fdC) {fP : Addr} {fdP : FuncData} (CPl : CalAt Pg w K mg base CX0 3 "_law_pile" ["box", "script", "start", "cell"] (spPile K) fP fdP)
    {fY : Addr} {fdY : FuncData} (CY : CalAt Pg w K mg base CX0 7 "ways_of" ["box", "pile"] spWays fY fdY) {fA : Addr} {fdA : FuncData} (CA : CalAt Pg w K mg base CX0 9 "_law_agree" ["box", "ways"] spAgree fA fdA)
    {fR : Addr} {fdR : FuncData} (CR : CalAt Pg w K mg base CX0 8 "_law_pile_by" ["box", "ways"] spPileBy fR fdR) {fN : Addr} {fdN : FuncData} (CN : CalAt Pg w K mg base CX0 2 "_law_numbers" ["cell", "many"] spNumbers fN fdN)
    {fS : Addr} {fdS : FuncData} (CS : CalAt Pg w K mg base CX0 4 "_law_some_ways" ["box", "ways", "numbers"] spSome fS fdS) : FnOk Pg w K mg base CX0 10 f fd ["script"] (spLaw K) := by
  refine F.ok scLaw (fun vs H Q E h => ?_) (fun cdv A outer s H vs Q E hr h => ?_)
  · obtain ⟨a, ns, rfl, _⟩ := h
    rfl
  · obtain ⟨sc, ns, rfl, hS, k⟩ := h
    have hr1 := hr.mono (show 1 ≤ 9 by decide)
    have hr2 := hr.mono (show 2 ≤ 9 by decide)
    have hr3 := hr.mono (show 3 ≤ 9 by decide)
    have hr4 := hr.mono (show 4 ≤ 9 by decide)
    have hr7 := hr.mono (show 7 ≤ 9 by decide)
    have hr8 := hr.mono (show 8 ≤ 9 by decide)
    refine ⟨_, PSs.nox (pss_cons (ps_set (i := 1) scLaw.nd rfl (.inl rfl) (pe_call CB.ok hr3 (by rfl) CB.g CB.kp CB.b .nil pass0 (pa_cons (pe_call CC.ok hr1 (by rfl) CC.g CC.kp CC.b .nil pass0 (pa_cons (pv 0) (pa_cons pe_int pa_nil))) (pa_cons pe_int (pa_cons pe_int pa_nil)))))
      (pss_cons (ps_set (i := 2) scLaw.nd rfl (.inl rfl) (pe_call CPl.ok hr3 (by rfl) CPl.g CPl.kp CPl.b .nil pass0 (pa_cons (pv 1) (pa_cons (pv 0) (pa_cons pe_int (pa_cons (pe_call CC.ok hr1 (by rfl) CC.g CC.kp CC.b .nil pass0 (pa_cons (pv 0) (pa_cons pe_int pa_nil))) pa_nil))))))
      (pss_cons (ps_set (i := 3) scLaw.nd rfl (.inl rfl) (pe_call CY.ok hr7 (by rfl) CY.g CY.kp CY.b .nil pass0 (pa_cons (pv 1) (pa_cons (pv 2) pa_nil))))
      (pss_cons (ps_if (PW.pt (pw_or (pt_not (pt_val (pe_call CA.ok hr (by rfl) CA.g CA.kp CA.b .nil pass0 (pa_cons (pv 1) (pa_cons (pv 3) pa_nil)))))
        (pw_or1 (pt_cmpR (op_neD hr.units) (pe_call CR.ok hr8 (by rfl) CR.g CR.kp CR.b .nil pass0 (pa_cons (pv 1) (pa_cons (pv 3) pa_nil))) (pv 2) (nomark _))))) (pss_one (ps_ret pe_bl)) pss_nil)
      (pss_cons (ps_set (i := 4) scLaw.nd rfl (.inl rfl) (pe_call CN.ok hr2 (by rfl) CN.g CN.kp CN.b .nil pass0 (pa_cons (pe_call CC.ok hr1 (by rfl) CC.g CC.kp CC.b .nil pass0 (pa_cons (pv 0) (pa_cons pe_int pa_nil))) (pa_cons pe_int pa_nil))))
      (pss_cons (ps_for PassesOwn.never rfl (pi_list (pe_lst (pa_cons (pe_slice sl_list (pv 4) po_none (po_some pe_int)) (pa_cons (pe_slice sl_list (pv 4) (po_some pe_int) (po_some pe_int)) (pa_cons (pe_slice sl_list (pv 4) (po_some pe_int) (po_some pe_int)) (pa_cons (pe_slice sl_list (pv 4) (po_some pe_int) (po_some pe_int)) pa_nil)))))) (pg_name (i := 5) scLaw.nd rfl (.inl rfl))
        (pss_one (ps_if (pt_not (pt_val (pe_call CA.ok hr (by rfl) CA.g CA.kp CA.b .nil pass0 (pa_cons (pv 1) (pa_cons (pe_call CS.ok hr4 (by rfl) CS.g CS.kp CS.b .nil pass0 (pa_cons (pv 1) (pa_cons (pv 3) (pa_cons (pv 5) pa_nil)))) pa_nil))))) (pss_one (ps_ret pe_bl)) pss_nil)))
      (pss_one (ps_ret pe_bl)))))))), ?_⟩
    -- box
    refine ⟨_, rfl, sc, ns, 0, rfl, hS, fun n0 => ⟨n0, rfl, fun a b c p H1 s1 hB => ?_⟩⟩
    -- pile
    refine ⟨_, rfl, _, rfl, _, rfl, sc, ns, 1, rfl, s1.seq hS, fun n1 => ⟨p, sc, a, b, c, ns, n1, rfl, hB, s1.seq hS, fun P q H2 s2 hP hR => ?_⟩⟩
    -- ways
    refine ⟨_, rfl, _, rfl, p, q, a, b, c, P, rfl, hB.same s2, hR, hP, fun o H3 s3 hT => ?_⟩
    have s13 := s2.trans s3
    have hW := ways_ok hP
    -- not _law_agree(..) or _law_pile_by(..) != pile
    refine ⟨_, rfl, _, rfl, p, o, a, b, c, _, rfl, hB.same s13, hT, hW, fun H4 s4 => ⟨true, rfl, iteF ?_⟩⟩
    have s14 := s13.trans s4
    have hSt : PileOk c a b ((waysL b c P).map stair) := by rw [stairs_ways hP]; exact stairs_ok hP
    refine ⟨_, rfl, _, rfl, p, o, a, b, c, _, rfl, hB.same s14, hT.same s4, hW, fun _ r H5 s5 hR5 => ?_, fun hN => absurd hSt hN⟩
    rw [pile_back hP] at hR5
    have s15 := s14.trans s5
    have hR2 := hR.same ((s3.trans s4).trans s5)
    refine ⟨_, rfl, _, _, dpR hR5, dpR hR2, shR _, shR _, _, rfl, ifF (by rw [eqv_self (shR _)]; rfl) ?_⟩
    -- numbers
    refine ⟨_, rfl, sc, ns, 2, rfl, (s1.trans s15).seq hS, fun n2 => ⟨n2, 12, rfl, by decide, fun nums t H6 _ _ s6 hN => ?_⟩⟩
    have s16 := s15.trans s6
    -- the four slices
    refine ⟨_, rfl, _, rfl, t, _, rfl, SqL.of hN, fun u1 nu1 => ?_⟩
    obtain ⟨m1, e1⟩ := cut_ints nums none (some 1)
    rw [e1]
    have z1 := same_upd (o := .lst (m1.map V.int)) nu1
    have i1 : Ints (upd H6 u1 (.lst (m1.map V.int))) u1 m1 := upd_same
    generalize upd H6 u1 (.lst (m1.map V.int)) = G1 at z1 i1 ⊢
    refine ⟨_, rfl, _, rfl, _, rfl, t, _, rfl, SqL.of (hN.same z1), fun u2 nu2 => ?_⟩
    obtain ⟨m2, e2⟩ := cut_ints nums (some 1) (some 3)
    rw [e2]
    have z2 := same_upd (o := .lst (m2.map V.int)) nu2
    have i2 : Ints (upd G1 u2 (.lst (m2.map V.int))) u2 m2 := upd_same
    generalize upd G1 u2 (.lst (m2.map V.int)) = G2 at z2 i2 ⊢
    refine ⟨_, rfl, _, rfl, _, rfl, t, _, rfl, SqL.of (hN.same (z1.trans z2)), fun u3 nu3 => ?_⟩
    obtain ⟨m3, e3⟩ := cut_ints nums (some 3) (some 6)
    rw [e3]
    have z3 := same_upd (o := .lst (m3.map V.int)) nu3
    have i3 : Ints (upd G2 u3 (.lst (m3.map V.int))) u3 m3 := upd_same
    generalize upd G2 u3 (.lst (m3.map V.int)) = G3 at z3 i3 ⊢
    refine ⟨_, rfl, _, rfl, _, rfl, t, _, rfl, SqL.of (hN.same ((z1.trans z2).trans z3)), fun u4 nu4 => ?_⟩
    obtain ⟨m4, e4⟩ := cut_ints nums (some 6) (some 12)
    rw [e4]
    have z4 := same_upd (o := .lst (m4.map V.int)) nu4
    have i4 : Ints (upd G3 u4 (.lst (m4.map V.int))) u4 m4 := upd_same
    generalize upd G3 u4 (.lst (m4.map V.int)) = G4 at z4 i4 ⊢
    refine ⟨by show 4 ≤ sizeLine; decide, fun l nl => ?_⟩
    have z5 := same_upd (o := .lst [.ref u1, .ref u2, .ref u3, .ref u4]) nl
    have el : (upd G4 l (.lst [.ref u1, .ref u2, .ref u3, .ref u4])) l = some (.lst [.ref u1, .ref u2, .ref u3, .ref u4]) := upd_same
    generalize upd G4 l (.lst [.ref u1, .ref u2, .ref u3, .ref u4]) = G5 at z5 el ⊢
    have hall : ∀ (i : Nat) (x : V), ([.ref u1, .ref u2, .ref u3, .ref u4] : List V)[i]? = some x → ∃ (u : Addr) (ms : List Int), x = .ref u ∧ Ints G5 u ms := fun i x hx => by
      have hm := List.mem_of_getElem? hx
      simp only [List.mem_cons, List.not_mem_nil, or_false] at hm
      rcases hm with e | e | e | e
      · exact ⟨u1, m1, e, i1.same (((z2.trans z3).trans z4).trans z5)⟩
      · exact ⟨u2, m2, e, i2.same ((z3.trans z4).trans z5)⟩
      · exact ⟨u3, m3, e, i3.same (z4.trans z5)⟩
      · exact ⟨u4, m4, e, i4.same z5⟩
    have sG := ((((s16.trans z1).trans z2).trans z3).trans z4).trans z5
    have hTG := hT.same (((((((s4.trans s5).trans s6).trans z1).trans z2).trans z3).trans z4).trans z5)
    refine ⟨l, rfl, ⟨_, SqL.of el⟩, for_list (K := K) (a := l) (xs := [.ref u1, .ref u2, .ref u3, .ref u4])
      (fun i σ H' => ∃ y5, σ = [some (.ref sc), some (.ref p), some (.ref q), some (.ref o), some (.ref t), y5] ∧ Same G5 H') ⟨none, rfl, Same.refl _⟩ (fun i σ H' _ ⟨_, _, sm⟩ => SqL.of (sm _ _ el)) ?_ (fun σ H' _ => k H')⟩
    rintro i x σ H' hx ⟨y5, rfl, sm⟩
    obtain ⟨u, ms, rfl, hI⟩ := hall i x hx
    have sB := sG.trans sm
    refine ⟨_, rfl, _, rfl, _, rfl, _, rfl, p, o, u, a, b, c, _, ms, rfl, hB.same sB, hTG.same sm, hW, hI.same sm, fun ws' o' H7 s7 hW7 hT7 => ?_⟩
    exact ⟨p, o', a, b, c, ws', rfl, hB.same (sB.trans s7), hT7, hW7, fun H8 s8 => ⟨true, rfl, iteF ⟨_, rfl, (sm.trans s7).trans s8⟩⟩⟩
end
end CP

set_option maxHeartbeats 0
namespace CP
open PySem PySem.Spec PyProof.Rows L2 TL CPM
/-! ### the head: facts by names, the run of the top -/
def mkD (x : Str) (st : Stmt) : He.DefD := ⟨(x, none), x, x, defArgs st, defBody st, defScope st, [], []⟩
def fn : List He.DefD := [mkD "is_whole_number" sWhole, mkD "is_box" sIsBox, mkD "need_box" sNeedBox, mkD "is_row_of" sIsRow, mkD "is_pile" sIsPile, mkD "need_pile" sNeedPile, mkD "stairs_of" sStairs, mkD "are_stairs" sAreStairs, mkD "pile_of_stairs" sPileOf, mkD "way_along" sAlong, mkD "ways_of" sWays, mkD "staircase_by" sStairBy, mkD "is_way_text" sIsWay, mkD "are_ways" sAreWays, mkD "pile_of_ways" sPileWays, mkD "points_of_way" sPoints, mkD "never_touch" sNever, mkD "_law_cell_at" sCell, mkD "_law_stir" sStir, mkD "_law_numbers" sNumbers, mkD "_law_box" sBox, mkD "_law_pile" sPile, mkD "_law_drawn_way" sDrawn, mkD "_law_exchanged" sExch, mkD "_law_some_ways" sSome, mkD "_law_pile_by" sPileBy, mkD "_law_agree" sAgree, mkD "law" sLaw]
def fa : List He.Fa := [.glo "is_whole_number", .glo "is_box", .glo "need_box", .glo "is_row_of", .glo "is_pile", .glo "need_pile", .glo "stairs_of", .glo "are_stairs", .glo "pile_of_stairs", .glo "way_along", .glo "ways_of", .glo "staircase_by", .glo "is_way_text", .glo "are_ways", .glo "pile_of_ways", .glo "points_of_way", .glo "never_touch", .glo "_law_cell_at", .glo "_law_stir", .glo "_law_numbers", .glo "_law_box", .glo "_law_pile", .glo "_law_drawn_way", .glo "_law_exchanged", .glo "_law_some_ways", .glo "_law_pile_by", .glo "_law_agree", .glo "law", .free "isinstance", .free "int", .free "bool", .free "tuple", .free "list", .free "str", .free "len", .free "sorted", .free "zip", .free "range", .free "enumerate", .free "min", .glo "NoWays", .exc "NoWays", .exm "NoWays" "NoWays" true]
abbrev R : PySem.W.OpenRow := PySem.W.OpenLaw.row PySem.Challenge.rw_cornerpiles_k18_whole_ways_that_never_to
abbrev hk : PySem.W.Hook := He.hookD 4 fa fn
def ob (s : PySem.W.SharedT) : He.AlD := He.obsDG 4 fa fn (HandSHeadRun.getT s)
theorem ob_eq (s : PySem.W.SharedT) : ob s = hk.obs s.abs := He.obsDG_eq (HandSHeadRun.getT_eq s)
def others : List Str := ["PileError", "NoBox", "NoPile", "NoStairs", "NoWays", "is_whole_number", "is_box", "need_box", "is_row_of", "is_pile", "need_pile", "stairs_of", "are_stairs", "pile_of_stairs", "way_along", "ways_of", "staircase_by", "is_way_text", "are_ways", "pile_of_ways", "points_of_way", "never_touch", "_law_cell_at", "_law_stir", "_law_numbers", "_law_box", "_law_pile", "_law_drawn_way", "_law_exchanged", "_law_some_ways", "_law_pile_by", "_law_agree"]
theorem run (w : World) : HandSHeadRun.RunEq R (PySem.W.view R.prog [37]) hk ob 3000 others w := by
  intro os
  kernel_rfl
theorem facts {P : Program} {w : World} {K : PySem.W.Frag} {h : Heap} {mg : Str → Option Value} {f : Addr} (X : K.In h) (G : h.Ns mainGlobals mg) (hfa : mg ("law" : Str) = some (.ref f)) (c : He.SaysD fa fn K) :
    ∃ fd : FuncData, (∀ (s : Shared) (v : Value), BindsTo s fd ⟨[v], []⟩ [("script", v)]) ∧ ∀ base : Heap, K.In base → base.Ns mainGlobals mg → FnOk P w K mg base CX0 10 f fd ["script"] (spLaw K) := by
  obtain ⟨fd0, F0⟩ : ∃ fd, FnP K "is_whole_number" sWhole (He.ga K "is_whole_number") fd := c.def_ 0 (d := mkD "is_whole_number" sWhole) rfl
  obtain ⟨fd1, F1⟩ : ∃ fd, FnP K "is_box" sIsBox (He.ga K "is_box") fd := c.def_ 1 (d := mkD "is_box" sIsBox) rfl
  obtain ⟨fd2, F2⟩ : ∃ fd, FnP K "need_box" sNeedBox (He.ga K "need_box") fd := c.def_ 2 (d := mkD "need_box" sNeedBox) rfl
  obtain ⟨fd3, F3⟩ : ∃ fd, FnP K "is_row_of" sIsRow (He.ga K "is_row_of") fd := c.def_ 3 (d := mkD "is_row_of" sIsRow) rfl
  obtain ⟨fd4, F4⟩ : ∃ fd, FnP K "is_pile" sIsPile (He.ga K "is_pile") fd := c.def_ 4 (d := mkD "is_pile" sIsPile) rfl
  obtain ⟨fd5, F5⟩ : ∃ fd, FnP K "need_pile" sNeedPile (He.ga K "need_pile") fd := c.def_ 5 (d := mkD "need_pile" sNeedPile) rfl
  obtain ⟨fd6, F6⟩ : ∃ fd, FnP K "stairs_of" sStairs (He.ga K "stairs_of") fd := c.def_ 6 (d := mkD "stairs_of" sStairs) rfl
  obtain ⟨fd7, F7⟩ : ∃ fd, FnP K "are_stairs" sAreStairs (He.ga K "are_stairs") fd := c.def_ 7 (d := mkD "are_stairs" sAreStairs) rfl
  obtain ⟨fd8, F8⟩ : ∃ fd, FnP K "pile_of_stairs" sPileOf (He.ga K "pile_of_stairs") fd := c.def_ 8 (d := mkD "pile_of_stairs" sPileOf) rfl
  obtain ⟨fd9, F9⟩ : ∃ fd, FnP K "way_along" sAlong (He.ga K "way_along") fd := c.def_ 9 (d := mkD "way_along" sAlong) rfl
  obtain ⟨fd10, F10⟩ : ∃ fd, FnP K "ways_of" sWays (He.ga K "ways_of") fd := c.def_ 10 (d := mkD "ways_of" sWays) rfl
  obtain ⟨fd11, F11⟩ : ∃ fd, FnP K "staircase_by" sStairBy (He.ga K "staircase_by") fd := c.def_ 11 (d := mkD "staircase_by" sStairBy) rfl
  obtain ⟨fd12, F12⟩ : ∃ fd, FnP K "is_way_text" sIsWay (He.ga K "is_way_text") fd := c.def_ 12 (d := mkD "is_way_text" sIsWay) rfl
  obtain ⟨fd13, F13⟩ : ∃ fd, FnP K "are_ways" sAreWays (He.ga K "are_ways") fd := c.def_ 13 (d := mkD "are_ways" sAreWays) rfl
  obtain ⟨fd14, F14⟩ : ∃ fd, FnP K "pile_of_ways" sPileWays (He.ga K "pile_of_ways") fd := c.def_ 14 (d := mkD "pile_of_ways" sPileWays) rfl
  obtain ⟨fd15, F15⟩ : ∃ fd, FnP K "points_of_way" sPoints (He.ga K "points_of_way") fd := c.def_ 15 (d := mkD "points_of_way" sPoints) rfl
  obtain ⟨fd16, F16⟩ : ∃ fd, FnP K "never_touch" sNever (He.ga K "never_touch") fd := c.def_ 16 (d := mkD "never_touch" sNever) rfl
  obtain ⟨fd17, F17⟩ : ∃ fd, FnP K "_law_cell_at" sCell (He.ga K "_law_cell_at") fd := c.def_ 17 (d := mkD "_law_cell_at" sCell) rfl
  obtain ⟨fd18, F18⟩ : ∃ fd, FnP K "_law_stir" sStir (He.ga K "_law_stir") fd := c.def_ 18 (d := mkD "_law_stir" sStir) rfl
  obtain ⟨fd19, F19⟩ : ∃ fd, FnP K "_law_numbers" sNumbers (He.ga K "_law_numbers") fd := c.def_ 19 (d := mkD "_law_numbers" sNumbers) rfl
  obtain ⟨fd20, F20⟩ : ∃ fd, FnP K "_law_box" sBox (He.ga K "_law_box") fd := c.def_ 20 (d := mkD "_law_box" sBox) rfl
  obtain ⟨fd21, F21⟩ : ∃ fd, FnP K "_law_pile" sPile (He.ga K "_law_pile") fd := c.def_ 21 (d := mkD "_law_pile" sPile) rfl
  obtain ⟨fd22, F22⟩ : ∃ fd, FnP K "_law_drawn_way" sDrawn (He.ga K "_law_drawn_way") fd := c.def_ 22 (d := mkD "_law_drawn_way" sDrawn) rfl
  obtain ⟨fd23, F23⟩ : ∃ fd, FnP K "_law_exchanged" sExch (He.ga K "_law_exchanged") fd := c.def_ 23 (d := mkD "_law_exchanged" sExch) rfl
  obtain ⟨fd24, F24⟩ : ∃ fd, FnP K "_law_some_ways" sSome (He.ga K "_law_some_ways") fd := c.def_ 24 (d := mkD "_law_some_ways" sSome) rfl
  obtain ⟨fd25, F25⟩ : ∃ fd, FnP K "_law_pile_by" sPileBy (He.ga K "_law_pile_by") fd := c.def_ 25 (d := mkD "_law_pile_by" sPileBy) rfl
  obtain ⟨fd26, F26⟩ : ∃ fd, FnP K "_law_agree" sAgree (He.ga K "_law_agree") fd := c.def_ 26 (d := mkD "_law_agree" sAgree) rfl
  obtain ⟨fdL, FL⟩ : ∃ fd, FnP K "law" sLaw (He.ga K "law") fd := c.def_ 27 (d := mkD "law" sLaw) rfl
  have e := hfa.symm.trans (He.glo_ok X G (c.fact 27 (f := .glo "law") rfl))
  cases e
  have m_isinstance : mg "isinstance" = none := He.free_ok X G (c.fact 28 (f := .free "isinstance") rfl)
  have m_int : mg "int" = none := He.free_ok X G (c.fact 29 (f := .free "int") rfl)
  have m_bool : mg "bool" = none := He.free_ok X G (c.fact 30 (f := .free "bool") rfl)
  have m_tuple : mg "tuple" = none := He.free_ok X G (c.fact 31 (f := .free "tuple") rfl)
  have m_list : mg "list" = none := He.free_ok X G (c.fact 32 (f := .free "list") rfl)
  have m_str : mg "str" = none := He.free_ok X G (c.fact 33 (f := .free "str") rfl)
  have m_len : mg "len" = none := He.free_ok X G (c.fact 34 (f := .free "len") rfl)
  have m_sorted : mg "sorted" = none := He.free_ok X G (c.fact 35 (f := .free "sorted") rfl)
  have m_zip : mg "zip" = none := He.free_ok X G (c.fact 36 (f := .free "zip") rfl)
  have m_range : mg "range" = none := He.free_ok X G (c.fact 37 (f := .free "range") rfl)
  have m_enumerate : mg "enumerate" = none := He.free_ok X G (c.fact 38 (f := .free "enumerate") rfl)
  have m_min : mg "min" = none := He.free_ok X G (c.fact 39 (f := .free "min") rfl)
  have T : ExcT K mg "NoWays" (He.ga K "NoWays") := by
    have q := c.fact 41 (f := .exc "NoWays") rfl
    obtain ⟨q1, q2⟩ := He.ba q
    obtain ⟨q2, q3⟩ := He.ba q2
    obtain ⟨q3, q4⟩ := He.ba q3
    exact ⟨He.glo_ok X G (c.fact 40 (f := .glo "NoWays") rfl), q1, q2, of_decide_eq_true q3, of_decide_eq_true q4, of_decide_eq_true (c.fact 42 (f := .exm "NoWays" "NoWays" true) rfl)⟩
  have bL := FunD.bindsA (ps := ["script"]) FL fun _ _ _ _ _ _ us hl => match us, hl with | [_], _ => rfl
  refine ⟨fdL, fun s v => bL s [v] rfl, fun base _ _ => ?_⟩
  have C0 : CalAt P w K mg base CX0 1 "is_whole_number" ["thing"] spWhole (He.ga K "is_whole_number") fd0 := ⟨ok_whole F0 m_isinstance m_int m_bool, He.glo_ok X G (c.fact 0 (f := .glo "is_whole_number") rfl), F0.kp, FunD.bindsN F0 fun _ _ _ _ _ _ us hl => match us, hl with | [_], _ => rfl⟩
  have C1 : CalAt P w K mg base CX0 2 "is_box" ["thing"] spIsBox (He.ga K "is_box") fd1 := ⟨ok_isBox F1 m_isinstance m_tuple m_len C0, He.glo_ok X G (c.fact 1 (f := .glo "is_box") rfl), F1.kp, FunD.bindsN F1 fun _ _ _ _ _ _ us hl => match us, hl with | [_], _ => rfl⟩
  have C2 : CalAt P w K mg base CX0 3 "need_box" ["box"] spNeedBox (He.ga K "need_box") fd2 := ⟨ok_needBox F2 C1, He.glo_ok X G (c.fact 2 (f := .glo "need_box") rfl), F2.kp, FunD.bindsN F2 fun _ _ _ _ _ _ us hl => match us, hl with | [_], _ => rfl⟩
  have C3 : CalAt P w K mg base CX0 2 "is_row_of" ["thing", "columns", "height"] spIsRow (He.ga K "is_row_of") fd3 := ⟨ok_isRow F3 m_isinstance m_list m_len m_sorted C0, He.glo_ok X G (c.fact 3 (f := .glo "is_row_of") rfl), F3.kp, FunD.bindsN F3 fun _ _ _ _ _ _ us hl => match us, hl with | [_, _, _], _ => rfl⟩
  have C4 : CalAt P w K mg base CX0 4 "is_pile" ["box", "thing"] spIsPile (He.ga K "is_pile") fd4 := ⟨ok_isPile F4 m_isinstance m_list m_len m_zip m_range C2 C3, He.glo_ok X G (c.fact 4 (f := .glo "is_pile") rfl), F4.kp, FunD.bindsN F4 fun _ _ _ _ _ _ us hl => match us, hl with | [_, _], _ => rfl⟩
  have C5 : CalAt P w K mg base CX0 5 "need_pile" ["box", "pile"] spNeedPile (He.ga K "need_pile") fd5 := ⟨ok_needPile F5 C4, He.glo_ok X G (c.fact 5 (f := .glo "need_pile") rfl), F5.kp, FunD.bindsN F5 fun _ _ _ _ _ _ us hl => match us, hl with | [_, _], _ => rfl⟩
  have C6 : CalAt P w K mg base CX0 6 "stairs_of" ["box", "pile"] spStairs (He.ga K "stairs_of") fd6 := ⟨ok_stairs F6 m_len m_range C5, He.glo_ok X G (c.fact 6 (f := .glo "stairs_of") rfl), F6.kp, FunD.bindsN F6 fun _ _ _ _ _ _ us hl => match us, hl with | [_, _], _ => rfl⟩
  have C7 : CalAt P w K mg base CX0 5 "are_stairs" ["box", "thing"] spAreStairs (He.ga K "are_stairs") fd7 := ⟨ok_areStairs F7 C2 C4, He.glo_ok X G (c.fact 7 (f := .glo "are_stairs") rfl), F7.kp, FunD.bindsN F7 fun _ _ _ _ _ _ us hl => match us, hl with | [_, _], _ => rfl⟩
  have C8 : CalAt P w K mg base CX0 6 "pile_of_stairs" ["box", "stairs"] spPileOf (He.ga K "pile_of_stairs") fd8 := ⟨ok_pileOf F8 m_len m_range C7, He.glo_ok X G (c.fact 8 (f := .glo "pile_of_stairs") rfl), F8.kp, FunD.bindsN F8 fun _ _ _ _ _ _ us hl => match us, hl with | [_, _], _ => rfl⟩
  have C9 : CalAt P w K mg base CX0 1 "way_along" ["staircase", "columns"] spAlong (He.ga K "way_along") fd9 := ⟨ok_along F9, He.glo_ok X G (c.fact 9 (f := .glo "way_along") rfl), F9.kp, FunD.bindsN F9 fun _ _ _ _ _ _ us hl => match us, hl with | [_, _], _ => rfl⟩
  have C10 : CalAt P w K mg base CX0 7 "ways_of" ["box", "pile"] spWays (He.ga K "ways_of") fd10 := ⟨ok_ways F10 C6 C9, He.glo_ok X G (c.fact 10 (f := .glo "ways_of") rfl), F10.kp, FunD.bindsN F10 fun _ _ _ _ _ _ us hl => match us, hl with | [_, _], _ => rfl⟩
  have C11 : CalAt P w K mg base CX0 1 "staircase_by" ["way"] spStairBy (He.ga K "staircase_by") fd11 := ⟨ok_stairBy F11, He.glo_ok X G (c.fact 11 (f := .glo "staircase_by") rfl), F11.kp, FunD.bindsN F11 fun _ _ _ _ _ _ us hl => match us, hl with | [_], _ => rfl⟩
  have C12 : CalAt P w K mg base CX0 1 "is_way_text" ["box", "thing"] spIsWay (He.ga K "is_way_text") fd12 := ⟨ok_isWay F12 m_isinstance m_str m_len, He.glo_ok X G (c.fact 12 (f := .glo "is_way_text") rfl), F12.kp, FunD.bindsN F12 fun _ _ _ _ _ _ us hl => match us, hl with | [_, _], _ => rfl⟩
  have C13 : CalAt P w K mg base CX0 6 "are_ways" ["box", "thing"] spAreWays (He.ga K "are_ways") fd13 := ⟨ok_areWays F13 m_isinstance m_list C2 C12 C11 C7, He.glo_ok X G (c.fact 13 (f := .glo "are_ways") rfl), F13.kp, FunD.bindsN F13 fun _ _ _ _ _ _ us hl => match us, hl with | [_, _], _ => rfl⟩
  have C14 : CalAt P w K mg base (L2.CX P w) 7 "pile_of_ways" ["box", "ways"] (spPileWays (He.ga K "NoWays")) (He.ga K "pile_of_ways") fd14 := ⟨ok_pileWays F14 T C13 C11 C8, He.glo_ok X G (c.fact 14 (f := .glo "pile_of_ways") rfl), F14.kp, FunD.bindsN F14 fun _ _ _ _ _ _ us hl => match us, hl with | [_, _], _ => rfl⟩
  have C15 : CalAt P w K mg base CX0 1 "points_of_way" ["way", "k"] spPoints (He.ga K "points_of_way") fd15 := ⟨ok_points F15, He.glo_ok X G (c.fact 15 (f := .glo "points_of_way") rfl), F15.kp, FunD.bindsN F15 fun _ _ _ _ _ _ us hl => match us, hl with | [_, _], _ => rfl⟩
  have C16 : CalAt P w K mg base CX0 4 "never_touch" ["box", "ways"] spNever (He.ga K "never_touch") fd16 := ⟨ok_never F16 m_enumerate C2 C15, He.glo_ok X G (c.fact 16 (f := .glo "never_touch") rfl), F16.kp, FunD.bindsN F16 fun _ _ _ _ _ _ us hl => match us, hl with | [_, _], _ => rfl⟩
  have C17 : CalAt P w K mg base CX0 1 "_law_cell_at" ["script", "k"] (spCell K) (He.ga K "_law_cell_at") fd17 := ⟨ok_cell F17 m_len, He.glo_ok X G (c.fact 17 (f := .glo "_law_cell_at") rfl), F17.kp, FunD.bindsN F17 fun _ _ _ _ _ _ us hl => match us, hl with | [_, _], _ => rfl⟩
  have C18 : CalAt P w K mg base CX0 1 "_law_stir" ["cell", "k"] spStir (He.ga K "_law_stir") fd18 := ⟨ok_stir F18, He.glo_ok X G (c.fact 18 (f := .glo "_law_stir") rfl), F18.kp, FunD.bindsN F18 fun _ _ _ _ _ _ us hl => match us, hl with | [_, _], _ => rfl⟩
  have C19 : CalAt P w K mg base CX0 2 "_law_numbers" ["cell", "many"] spNumbers (He.ga K "_law_numbers") fd19 := ⟨ok_numbers F19 m_range C18, He.glo_ok X G (c.fact 19 (f := .glo "_law_numbers") rfl), F19.kp, FunD.bindsN F19 fun _ _ _ _ _ _ us hl => match us, hl with | [_, _], _ => rfl⟩
  have C20 : CalAt P w K mg base CX0 3 "_law_box" ["cell", "most", "great"] spBox (He.ga K "_law_box") fd20 := ⟨ok_box F20 C19, He.glo_ok X G (c.fact 20 (f := .glo "_law_box") rfl), F20.kp, FunD.bindsN F20 fun _ _ _ _ _ _ us hl => match us, hl with | [_, _, _], _ => rfl⟩
  have C21 : CalAt P w K mg base CX0 3 "_law_pile" ["box", "script", "start", "cell"] (spPile K) (He.ga K "_law_pile") fd21 := ⟨ok_pile F21 m_range m_len m_min C19, He.glo_ok X G (c.fact 21 (f := .glo "_law_pile") rfl), F21.kp, FunD.bindsN F21 fun _ _ _ _ _ _ us hl => match us, hl with | [_, _, _, _], _ => rfl⟩
  have C22 : CalAt P w K mg base CX0 3 "_law_drawn_way" ["box", "cell"] spDrawn (He.ga K "_law_drawn_way") fd22 := ⟨ok_drawn F22 C19, He.glo_ok X G (c.fact 22 (f := .glo "_law_drawn_way") rfl), F22.kp, FunD.bindsN F22 fun _ _ _ _ _ _ us hl => match us, hl with | [_, _], _ => rfl⟩
  have C23 : CalAt P w K mg base CX0 1 "_law_exchanged" ["way", "number"] spExch (He.ga K "_law_exchanged") fd23 := ⟨ok_exch F23 m_len, He.glo_ok X G (c.fact 23 (f := .glo "_law_exchanged") rfl), F23.kp, FunD.bindsN F23 fun _ _ _ _ _ _ us hl => match us, hl with | [_, _], _ => rfl⟩
  have C24 : CalAt P w K mg base CX0 4 "_law_some_ways" ["box", "ways", "numbers"] spSome (He.ga K "_law_some_ways") fd24 := ⟨ok_some F24 m_list m_len C23 C22, He.glo_ok X G (c.fact 24 (f := .glo "_law_some_ways") rfl), F24.kp, FunD.bindsN F24 fun _ _ _ _ _ _ us hl => match us, hl with | [_, _, _], _ => rfl⟩
  have C25 : CalAt P w K mg base CX0 8 "_law_pile_by" ["box", "ways"] spPileBy (He.ga K "_law_pile_by") fd25 := ⟨ok_pileBy F25 T C14, He.glo_ok X G (c.fact 25 (f := .glo "_law_pile_by") rfl), F25.kp, FunD.bindsN F25 fun _ _ _ _ _ _ us hl => match us, hl with | [_, _], _ => rfl⟩
  have C26 : CalAt P w K mg base CX0 9 "_law_agree" ["box", "ways"] spAgree (He.ga K "_law_agree") fd26 := ⟨ok_agree F26 m_isinstance m_bool C16 C13 C25 C4 C10, He.glo_ok X G (c.fact 26 (f := .glo "_law_agree") rfl), F26.kp, FunD.bindsN F26 fun _ _ _ _ _ _ us hl => match us, hl with | [_, _], _ => rfl⟩
  exact ok_law FL C20 C17 C21 C10 C26 C25 C19 C24
end CP
open PySem PySem.W PySem.Calls PyProof.Rows
set_option maxRecDepth 100000 in
set_option maxHeartbeats 0 in
theorem PySem.Challenge.cw_cornerpiles_k18_whole_ways_that_never_to_holds : PySem.Challenge.rw_cornerpiles_k18_whole_ways_that_never_to.Holds := by
  w_on; o_law
  refine HandSHeadRun.head_any (r := OpenLaw.row PySem.Challenge.rw_cornerpiles_k18_whole_ways_that_never_to) (q := view (OpenLaw.row PySem.Challenge.rw_cornerpiles_k18_whole_ways_that_never_to).prog [37]) (H := CP.hk) (ob := CP.ob) (M := 3000) (loose := CP.others) (d := HandSHeadRun.topDef (OpenLaw.row PySem.Challenge.rw_cornerpiles_k18_whole_ways_that_never_to).prog 37) (kwd := []) CP.ob_eq
    (by kernel_rfl) (fun s => by kernel_rfl) CP.run (by kernel_rfl) (by kernel_rfl) (by kernel_rfl) (by rfl) (by first | assumption | decide +kernel) (by decide +kernel) ⟨rfl, rfl, rfl, rfl, rfl, by decide +kernel⟩ ?hw ?hc
  case hw => w_witness2
  case hc =>
    refine L2.walk_ofE (l := PySem.Challenge.rw_cornerpiles_k18_whole_ways_that_never_to) (n := 63) (k := 10) (x := "script") (CX := L2.CX0) rfl (by decide) (by kernel_rfl) ⟨rfl, by decide, by decide⟩ ?F (fun _ _ _ _ z => z)
    intro w mg fa h Y G hmg0
    obtain ⟨K, KX, c⟩ := Y
    have hmg : mg ("law" : PySem.Str) = some (.ref fa) := by
      have e : (HandSHeadRun.topDef (OpenLaw.row PySem.Challenge.rw_cornerpiles_k18_whole_ways_that_never_to).prog 37).name = ("law" : PySem.Str) := by kernel_rfl
      rw [← e]
      exact hmg0
    obtain ⟨fd, hb, hF⟩ := CP.facts (P := (PySem.Challenge.rw_cornerpiles_k18_whole_ways_that_never_to).prog) (w := w) KX G hmg c
    exact ⟨K, fd, CP.spLaw K, KX, hb, fun H a ns hl _ hS => ⟨a, ns, rfl, hS, fun _ => rfl⟩, hF⟩
