import PyProof.Rows.All
import HandS.ForMost
import HandS.IsInst
import HandS.SetFor
import HandS.SetKeys
import HandS.Evl
import HandS.Wide
import HandS.EndBits
import HandS.Zip
import HandS.Deep
import HandS.Style
import HandS.SortInts
import HandS.Conv
import PyProof.ReprRoads
import KE.SortData
import PyProof.ReprBulk
import HandS.Sort
import KE.KDictSum
import PyProof.Transfer
import PySem.Challenge.RW_oftenahead_k05_whole_shapes
set_option Elab.async false
set_option linter.all false
set_option maxRecDepth 100000
set_option maxHeartbeats 4000000
/-! plain mathematics of the program: no Python here -/
namespace Oa

/-! ### the law's draws -/
def cellAt (ns : List Int) (k : Nat) : Int := ns.getD k 0
def primes : List Int := [1000003, 1000033, 1000037, 1000039, 1000081, 1000099, 1000117, 1000121, 1000133, 1000151, 1000159, 1000171, 1000183, 1000187, 1000193, 1000199]
def drawF (c : Int) (k : Nat) (most : Int) : Int := (c * 48271 + (k : Int) * 69621) % (primes.getD (k % 16) 1) % most
def divs : List Int := [1, 7, 49, 343, 2401]
def numF (c : Int) (k : Nat) (lim : Int) : Int :=
  if 10 ^ 18 ≤ c then (c - 10 ^ 18) / (divs.getD (k % 5) 1) % lim
  else drawF ((c + 977 * (k : Int)) * (c + 31 * (k : Int) + 5)) (k % 9 + 1) 999983 % lim
theorem numF_nn (c : Int) (k : Nat) {lim : Int} (h : 0 < lim) : 0 ≤ numF c k lim := by
  unfold numF; split <;> exact Int.emod_nonneg _ (by omega)
theorem numF_lt (c : Int) (k : Nat) {lim : Int} (h : 0 < lim) : numF c k lim < lim := by
  unfold numF; split <;> exact Int.emod_lt_of_pos _ h
def signL : List Int := [5, -3, 0, 10 ^ 20, 7, -1, 12, 40]
def signsF (ns : List Int) (b : Nat) (most many : Int) : List Int :=
  (List.range (numF (cellAt ns b) b (most + 1)).toNat).map fun k => signL.getD (numF (cellAt ns (b + k + 1) + 31 * (k : Int)) (k + b + 2) many).toNat 0
theorem signsF_len (ns : List Int) (b : Nat) (most many : Int) (h : 0 ≤ most) : ((signsF ns b most many).length : Int) ≤ most := by
  unfold signsF
  rw [List.length_map, List.length_range]
  have h1 := numF_nn (cellAt ns b) b (lim := most + 1) (by omega)
  have h2 := numF_lt (cellAt ns b) b (lim := most + 1) (by omega)
  omega

/-! ### lists -/
theorem map_getD {α : Type} (f : Int → α) (l : List Int) : (List.range l.length).map (fun i => f (l.getD i 0)) = l.map f := by
  apply List.ext_getElem?
  intro i
  rw [List.getElem?_map, List.getElem?_map]
  by_cases hi : i < l.length
  · rw [List.getElem?_range hi, List.getElem?_eq_getElem hi, Option.map_some, Option.map_some, List.getD_eq_getElem?_getD, List.getElem?_eq_getElem hi]
    rfl
  · rw [List.getElem?_eq_none (by rw [List.length_range]; omega), List.getElem?_eq_none (by omega)]
    rfl
/-! ### counts and patterns -/
/-- for each place how often its sign stands ahead -/
def countsF (row : List Int) : List Int := (List.range row.length).map fun i => ((row.take i).count (row.getD i 0) : Int)
theorem countsF_len (row : List Int) : (countsF row).length = row.length := by unfold countsF; rw [List.length_map, List.length_range]
theorem countsF_get {row : List Int} {i : Nat} (h : i < row.length) : (countsF row)[i]? = some ((row.take i).count (row.getD i 0) : Int) := by
  unfold countsF; rw [List.getElem?_map, List.getElem?_range h]; rfl
theorem countsF_snoc (row : List Int) (s : Int) : countsF (row ++ [s]) = countsF row ++ [((row.count s : Nat) : Int)] := by
  unfold countsF
  rw [List.length_append, List.length_singleton, List.range_succ, List.map_append]
  congr 1
  · apply List.map_congr_left
    intro i hi
    have hi' : i < row.length := List.mem_range.mp hi
    rw [List.take_append_of_le_length (by omega)]
    congr 2
    rw [List.getD_eq_getElem?_getD, List.getD_eq_getElem?_getD, List.getElem?_append_left hi']
  · simp
/-- the signs as they are first met -/
def firsts : List Int → List Int → List Int
  | acc, [] => acc
  | acc, s :: r => firsts (if s ∈ acc then acc else acc ++ [s]) r
theorem firsts_snoc (acc row : List Int) (s : Int) : firsts acc (row ++ [s]) = if s ∈ firsts acc row then firsts acc row else firsts acc row ++ [s] := by
  induction row generalizing acc with
  | nil => rfl
  | cons a r ih => show firsts _ (r ++ [s]) = _; rw [ih]; rfl
theorem firsts_pre (acc row : List Int) : ∃ more, firsts acc row = acc ++ more := by
  induction row generalizing acc with
  | nil => exact ⟨[], by simp [firsts]⟩
  | cons a r ih =>
    obtain ⟨m, e⟩ := ih (if a ∈ acc then acc else acc ++ [a])
    show ∃ more, firsts _ r = _
    rw [e]
    split
    · exact ⟨m, rfl⟩
    · exact ⟨[a] ++ m, by rw [List.append_assoc]⟩
theorem firsts_mem (acc row : List Int) (s : Int) : s ∈ firsts acc row ↔ s ∈ acc ∨ s ∈ row := by
  induction row generalizing acc with
  | nil => simp [firsts]
  | cons a r ih =>
    show s ∈ firsts _ r ↔ _
    rw [ih]
    split
    · rename_i h
      constructor
      · rintro (h1 | h1)
        · exact .inl h1
        · exact .inr (List.mem_cons_of_mem _ h1)
      · rintro (h1 | h1)
        · exact .inl h1
        · rcases List.mem_cons.mp h1 with e | e
          · subst e; exact .inl h
          · exact .inr e
    · simp only [List.mem_append, List.mem_cons, List.not_mem_nil, or_false]
      constructor
      · rintro ((h1 | h1) | h1)
        · exact .inl h1
        · exact .inr (.inl h1)
        · exact .inr (.inr h1)
      · rintro (h1 | h1 | h1)
        · exact .inl (.inl h1)
        · exact .inl (.inr h1)
        · exact .inr h1
theorem firsts_nodup (acc row : List Int) (h : acc.Nodup) : (firsts acc row).Nodup := by
  induction row generalizing acc with
  | nil => exact h
  | cons a r ih =>
    show (firsts _ r).Nodup
    apply ih
    split
    · exact h
    · rename_i hn
      rw [List.nodup_append]
      refine ⟨h, by simp, fun x hx y hy => ?_⟩
      rw [List.mem_singleton] at hy
      subst hy
      intro e
      subst e
      exact hn hx
theorem firsts_len (acc row : List Int) : (firsts acc row).length ≤ acc.length + row.length := by
  induction row generalizing acc with
  | nil => exact Nat.le_refl _
  | cons a r ih =>
    show (firsts _ r).length ≤ _
    refine Nat.le_trans (ih _) ?_
    split
    · rw [List.length_cons]; omega
    · rw [List.length_append, List.length_singleton, List.length_cons]; omega
def patternF (row : List Int) : List Int := row.map fun s => (((firsts [] row).idxOf s : Nat) : Int)
theorem patternF_len (row : List Int) : (patternF row).length = row.length := by unfold patternF; rw [List.length_map]
theorem idx_app {l m : List Int} {s : Int} (h : s ∈ l) : (l ++ m).idxOf s = l.idxOf s := by
  induction l with
  | nil => cases h
  | cons a r ih =>
    rw [List.cons_append, List.idxOf_cons, List.idxOf_cons]
    by_cases e : (a == s) = true
    · rw [e]; rfl
    · have e' : (a == s) = false := by simpa using e
      rw [e']
      have hm : s ∈ r := by
        rcases List.mem_cons.mp h with q | q
        · subst q; simp at e
        · exact q
      show (r ++ m).idxOf s + 1 = r.idxOf s + 1
      rw [ih hm]
theorem idx_inj {l : List Int} {s t : Int} (hs : s ∈ l) (e : l.idxOf s = l.idxOf t) : s = t := by
  induction l with
  | nil => cases hs
  | cons a r ih =>
    rw [List.idxOf_cons, List.idxOf_cons] at e
    by_cases h1 : a = s
    · subst h1
      by_cases h2 : a = t
      · exact h2
      · have q : (a == t) = false := by simpa using h2
        rw [q] at e
        simp at e
    · have q1 : (a == s) = false := by simpa using h1
      by_cases h2 : a = t
      · subst h2
        rw [q1] at e
        simp at e
      · have q2 : (a == t) = false := by simpa using h2
        rw [q1, q2] at e
        have e' : r.idxOf s = r.idxOf t := by simpa using e
        refine ih ?_ e'
        rcases List.mem_cons.mp hs with z | z
        · exact absurd z.symm h1
        · exact z
theorem patternF_snoc (row : List Int) (s : Int) : patternF (row ++ [s]) = patternF row ++ [(((firsts [] (row ++ [s])).idxOf s : Nat) : Int)] := by
  unfold patternF
  rw [List.map_append]
  congr 1
  apply List.map_congr_left
  intro x hx
  congr 1
  rw [firsts_snoc]
  split
  · rfl
  · exact idx_app ((firsts_mem [] row x).mpr (.inr hx))
theorem count_map_inj (f : Int → Int) (l : List Int) (s : Int) (h : ∀ x ∈ l, f x = f s → x = s) : (l.map f).count (f s) = l.count s := by
  induction l with
  | nil => rfl
  | cons a r ih =>
    rw [List.map_cons, List.count_cons, List.count_cons, ih fun x hx => h x (List.mem_cons_of_mem _ hx)]
    congr 1
    by_cases e : a = s
    · subst e; simp
    · have e2 : ¬ f a = f s := fun q => e (h a (List.mem_cons_self ..) q)
      rw [beq_eq_false_iff_ne.mpr e, beq_eq_false_iff_ne.mpr e2]
theorem countsF_map (f : Int → Int) (row : List Int) (h : ∀ x ∈ row, ∀ y ∈ row, f x = f y → x = y) : countsF (row.map f) = countsF row := by
  unfold countsF
  rw [List.length_map]
  apply List.map_congr_left
  intro i hi
  have hi' : i < row.length := List.mem_range.mp hi
  congr 1
  have e1 : (row.map f).getD i 0 = f (row.getD i 0) := by
    rw [List.getD_eq_getElem?_getD, List.getD_eq_getElem?_getD, List.getElem?_map, List.getElem?_eq_getElem hi']; rfl
  have hm : row.getD i 0 ∈ row := by
    rw [List.getD_eq_getElem?_getD, List.getElem?_eq_getElem hi']; exact List.getElem_mem hi'
  rw [e1, ← List.map_take]
  exact count_map_inj f _ _ fun x hx q => h x (List.mem_of_mem_take hx) _ hm q
theorem counts_pattern (row : List Int) : countsF (patternF row) = countsF row := by
  apply countsF_map
  intro x hx y hy e
  have e' : (firsts [] row).idxOf x = (firsts [] row).idxOf y := by omega
  exact idx_inj ((firsts_mem [] row x).mpr (.inr hx)) e'
/-! ### a row with one number changed -/
def bentL : List Int := [0, 1, 2, -1, 10 ^ 20]
def bentAt (ns row : List Int) (b : Nat) : Nat := (numF (cellAt ns b) (b + 1) (if (row.length : Int) > 1 then (row.length : Int) else 1)).toNat
def bentF (ns row : List Int) (b : Nat) : List Int := row.take (bentAt ns row b) ++ [bentL.getD (numF (cellAt ns b) (b + 2) 5).toNat 0] ++ row.drop (bentAt ns row b + 1)
theorem bentAt_lt (ns row : List Int) (b : Nat) : bentAt ns row b < max 1 row.length := by
  unfold bentAt
  have h1 := numF_nn (cellAt ns b) (b + 1) (lim := if (row.length : Int) > 1 then (row.length : Int) else 1) (by split <;> omega)
  have h2 := numF_lt (cellAt ns b) (b + 1) (lim := if (row.length : Int) > 1 then (row.length : Int) else 1) (by split <;> omega)
  have h3 : (if (row.length : Int) > 1 then (row.length : Int) else 1) = ((max 1 row.length : Nat) : Int) := by split <;> omega
  rw [h3] at h1 h2
  rw [h3]
  omega
theorem bentF_len (ns row : List Int) (b : Nat) : (bentF ns row b).length ≤ max 1 row.length := by
  have h := bentAt_lt ns row b
  unfold bentF
  rw [List.length_append, List.length_append, List.length_take, List.length_drop, List.length_singleton]
  omega
end Oa
/-! which rows are counts, and of which patterns -/
namespace Oa
theorem snoc_ind {P : List Int → Prop} (h0 : P []) (hs : ∀ l x, P l → P (l ++ [x])) : ∀ l, P l := by
  intro l
  have h : ∀ r : List Int, P r.reverse := by
    intro r
    induction r with
    | nil => exact h0
    | cons a r ih => rw [List.reverse_cons]; exact hs _ _ ih
  have := h l.reverse
  rw [List.reverse_reverse] at this
  exact this
theorem filt_change {F : List Int} (nd : F.Nodup) {s : Int} (hs : s ∈ F) (P P' : Int → Bool) (h : ∀ x, x ≠ s → P x = P' x) :
    (F.filter P').length + (if P s = true then 1 else 0) = (F.filter P).length + (if P' s = true then 1 else 0) := by
  induction F with
  | nil => cases hs
  | cons a r ih =>
    obtain ⟨h1, h2⟩ := List.nodup_cons.mp nd
    by_cases e : a = s
    · subst e
      have er : r.filter P' = r.filter P := List.filter_congr fun x hx => (h x fun q => h1 (q ▸ hx)).symm
      rw [List.filter_cons, List.filter_cons, er]
      by_cases p1 : P a = true <;> by_cases p2 : P' a = true <;> simp [p1, p2] <;> omega
    · have hr : s ∈ r := by
        rcases List.mem_cons.mp hs with q | q
        · exact absurd q.symm e
        · exact q
      have := ih h2 hr
      rw [List.filter_cons, List.filter_cons, h a e]
      by_cases p2 : P' a = true
      · simp only [p2, if_true, List.length_cons]; omega
      · have p3 : P' a = false := by simpa using p2
        simp only [p3]; exact this
theorem filt_split (F : List Int) (P Q : Int → Bool) : (F.filter P).length = (F.filter fun x => P x && Q x).length + (F.filter fun x => P x && !Q x).length := by
  induction F with
  | nil => rfl
  | cons a r ih =>
    rw [List.filter_cons, List.filter_cons, List.filter_cons]
    by_cases p1 : P a = true <;> by_cases p2 : Q a = true <;> simp [p1, p2] <;> omega
/-- how many signs stand more than t times -/
def moreThan (p : List Int) (t : Nat) : Nat := ((firsts [] p).filter fun s => decide (t < p.count s)).length
theorem count_counts (p : List Int) : ∀ t : Nat, (countsF p).count (t : Int) = moreThan p t := by
  refine snoc_ind (P := fun p => ∀ t : Nat, (countsF p).count (t : Int) = moreThan p t) (fun t => rfl) (fun p s ih t => ?_) p
  rw [countsF_snoc, List.count_append, ih t, List.count_singleton]
  have hc : ∀ x, (p ++ [s]).count x = p.count x + (if x = s then 1 else 0) := fun x => by
    rw [List.count_append, List.count_singleton]
    by_cases e : x = s
    · subst e; simp
    · have : (s == x) = false := by simpa using fun q => e q.symm
      simp [e, this]
  unfold moreThan
  rw [firsts_snoc]
  by_cases hs : s ∈ firsts [] p
  · rw [if_pos hs]
    have h := filt_change (firsts_nodup [] p List.nodup_nil) hs (fun x => decide (t < p.count x)) (fun x => decide (t < (p ++ [s]).count x)) (fun x hx => by rw [hc x, if_neg hx, Nat.add_zero])
    simp only [hc s, if_true, decide_eq_true_eq] at h
    have e1 : (((p.count s : Nat) : Int) == (t : Int)) = decide (p.count s = t) := by
      by_cases e : p.count s = t
      · subst e; simp
      · have e2 : ¬ ((p.count s : Nat) : Int) = (t : Int) := by omega
        simp [e, e2]
    rw [e1]
    by_cases e : p.count s = t
    · subst e
      simp at h ⊢
      omega
    · by_cases e3 : t < p.count s
      · have : t < p.count s + 1 := by omega
        simp [e, e3, this] at h ⊢
        omega
      · have : ¬ t < p.count s + 1 := by omega
        simp [e, e3, this] at h ⊢
        omega
  · rw [if_neg hs, List.filter_append, List.length_append]
    have hn : s ∉ p := fun q => hs ((firsts_mem [] p s).mpr (.inr q))
    have hz : p.count s = 0 := List.count_eq_zero.mpr hn
    have e1 : (firsts [] p).filter (fun x => decide (t < (p ++ [s]).count x)) = (firsts [] p).filter (fun x => decide (t < p.count x)) := List.filter_congr fun x hx => by
      rw [hc x, if_neg (fun (q : x = s) => hs (q ▸ hx)), Nat.add_zero]
    rw [e1, hz]
    congr 1
    rw [List.filter_cons, List.filter_nil, hc s, hz, if_pos rfl]
    by_cases e : t = 0
    · subst e; rfl
    · have e2 : ¬ ((0 : Nat) : Int) = (t : Int) := by omega
      have e3 : ¬ t < 0 + 1 := by omega
      have e4 : ((((0 : Nat) : Int) == (t : Int))) = false := by simpa using e2
      rw [e4]
      simp [e3]
/-- the signs that stand just t times -/
def justF (p : List Int) (t : Int) : List Int := (firsts [] p).filter fun s => decide (((p.count s : Nat) : Int) = t)
theorem just_len (p : List Int) (t : Nat) : (justF p ((t : Int) + 1)).length + (countsF p).count ((t : Int) + 1) = (countsF p).count (t : Int) := by
  have e : ((t : Int) + 1) = ((t + 1 : Nat) : Int) := by omega
  rw [e, count_counts, count_counts]
  unfold justF moreThan
  have h := filt_split (firsts [] p) (fun s => decide (t < p.count s)) (fun s => decide (t + 1 < p.count s))
  have h1 : (firsts [] p).filter (fun x => decide (t < p.count x) && decide (t + 1 < p.count x)) = (firsts [] p).filter (fun s => decide (t + 1 < p.count s)) := List.filter_congr fun x _ => by
    by_cases a : t + 1 < p.count x
    · have : t < p.count x := by omega
      simp [a, this]
    · simp [a]
  have h2 : (firsts [] p).filter (fun x => decide (t < p.count x) && !decide (t + 1 < p.count x)) = (firsts [] p).filter (fun s => decide (((p.count s : Nat) : Int) = ((t + 1 : Nat) : Int))) := List.filter_congr fun x _ => by
    by_cases a : p.count x = t + 1
    · have h3 : t < p.count x := by omega
      have h4 : ¬ t + 1 < p.count x := by omega
      simp [a]
    · have h5 : ¬ ((p.count x : Nat) : Int) = ((t + 1 : Nat) : Int) := by omega
      by_cases b : t < p.count x
      · have h6 : t + 1 < p.count x := by omega
        rw [decide_eq_false h5, decide_eq_true h6]; simp
      · rw [decide_eq_false h5, decide_eq_false b]; simp
  rw [h1, h2] at h
  omega

/-! ### what is left for a place -/
def leftF (row : List Int) (i : Nat) : Int :=
  if row.getD i 0 ≤ 0 then (if row.getD i 0 = 0 then 1 else 0) else (((row.take i).count (row.getD i 0 - 1) : Nat) : Int) - (((row.take i).count (row.getD i 0) : Nat) : Int)
def Good (row : List Int) : Prop := ∀ i, i < row.length → 1 ≤ leftF row i
theorem left_just {p row : List Int} {i : Nat} (h : countsF p = row.take i) (ht : 0 < row.getD i 0) : ((justF p (row.getD i 0)).length : Int) = leftF row i := by
  unfold leftF
  rw [if_neg (by omega), ← h]
  obtain ⟨t, et⟩ : ∃ t : Nat, row.getD i 0 = (t : Int) + 1 := ⟨(row.getD i 0 - 1).toNat, by omega⟩
  rw [et]
  have := just_len p t
  rw [show (t : Int) + 1 - 1 = (t : Int) by omega]
  omega
/-- counts are good -/
theorem good_counts (p : List Int) : Good (countsF p) := by
  intro i hi
  rw [countsF_len] at hi
  have hg : (countsF p).getD i 0 = (((p.take i).count (p.getD i 0) : Nat) : Int) := by
    rw [List.getD_eq_getElem?_getD, countsF_get hi]; rfl
  have ht : countsF (p.take i) = (countsF p).take i := by
    unfold countsF
    rw [List.length_take, ← List.map_take, List.take_range, Nat.min_eq_left (by omega)]
    apply List.map_congr_left
    intro j hj
    have hj' : j < i := by have := List.mem_range.mp hj; omega
    rw [List.take_take, Nat.min_eq_left (by omega)]
    congr 2
    rw [List.getD_eq_getElem?_getD, List.getD_eq_getElem?_getD, List.getElem?_take_of_lt hj']
  by_cases h0 : (countsF p).getD i 0 ≤ 0
  · unfold leftF
    rw [if_pos h0, if_pos (by omega)]
    exact Int.le_refl 1
  · rw [← left_just ht (by omega), hg]
    have hm : p.getD i 0 ∈ justF (p.take i) (((p.take i).count (p.getD i 0) : Nat) : Int) := by
      unfold justF
      refine List.mem_filter.mpr ⟨(firsts_mem [] _ _).mpr (.inr ?_), by simp⟩
      rw [hg] at h0
      exact List.count_pos_iff.mp (by omega)
    have := List.length_pos_of_mem hm
    omega

/-! ### patterns -/
def knownF (p : List Int) : Nat := (firsts [] p).length
def IsPat (p : List Int) : Prop := firsts [] p = (List.range (knownF p)).map fun i : Nat => (i : Int)
theorem isPat_nil : IsPat [] := rfl
theorem IsPat.mem {p : List Int} (h : IsPat p) (s : Int) : s ∈ firsts [] p ↔ 0 ≤ s ∧ s < (knownF p : Int) := by
  rw [h, List.mem_map]
  constructor
  · rintro ⟨i, hi, rfl⟩
    have := List.mem_range.mp hi
    omega
  · rintro ⟨h1, h2⟩
    exact ⟨s.toNat, List.mem_range.mpr (by omega), by omega⟩
theorem IsPat.fresh {p : List Int} (h : IsPat p) : (knownF p : Int) ∉ firsts [] p := fun q => by
  have := (h.mem _).mp q
  omega
theorem IsPat.snoc {p : List Int} (h : IsPat p) {s : Int} (hs : s ∈ firsts [] p ∨ s = (knownF p : Int)) : IsPat (p ++ [s]) ∧ knownF (p ++ [s]) = if s = (knownF p : Int) then knownF p + 1 else knownF p := by
  by_cases hm : s ∈ firsts [] p
  · have hne : s ≠ (knownF p : Int) := fun q => h.fresh (q ▸ hm)
    have e : firsts [] (p ++ [s]) = firsts [] p := by rw [firsts_snoc, if_pos hm]
    have ek : knownF (p ++ [s]) = knownF p := by unfold knownF; rw [e]
    refine ⟨?_, by rw [if_neg hne, ek]⟩
    unfold IsPat
    rw [e, ek]
    exact h
  · have hk : s = (knownF p : Int) := hs.resolve_left hm
    have e : firsts [] (p ++ [s]) = firsts [] p ++ [s] := by rw [firsts_snoc, if_neg hm]
    have ek : knownF (p ++ [s]) = knownF p + 1 := by unfold knownF; rw [e, List.length_append]; rfl
    refine ⟨?_, by rw [if_pos hk, ek]⟩
    unfold IsPat
    rw [e, ek, List.range_succ, List.map_append, hk]
    unfold IsPat at h
    rw [← h]
    rfl
/-- the signs that can stand at a place with the number t -/
def someF (p : List Int) (t : Int) : List Int := if 0 < t then justF p t else [(knownF p : Int)]
theorem some_prog {p : List Int} (h : IsPat p) (t : Int) : someF p t = if 0 < t then ((List.range (knownF p)).map fun i : Nat => (i : Int)).filter (fun s => decide (((p.count s : Nat) : Int) = t)) else [(knownF p : Int)] := by
  unfold someF justF
  rw [← h]
theorem some_len {p row : List Int} {i : Nat} (h : countsF p = row.take i) (ht : 1 ≤ leftF row i) : ((someF p (row.getD i 0)).length : Int) = leftF row i := by
  unfold someF
  by_cases h0 : 0 < row.getD i 0
  · rw [if_pos h0, left_just h h0]
  · rw [if_neg h0]
    unfold leftF at ht ⊢
    rw [if_pos (by omega)] at ht ⊢
    by_cases e : row.getD i 0 = 0
    · rw [if_pos e]; rfl
    · rw [if_neg e] at ht; omega
theorem left_nn {row : List Int} {i : Nat} (ht : 1 ≤ leftF row i) : 0 ≤ row.getD i 0 := by
  unfold leftF at ht
  by_cases h0 : row.getD i 0 ≤ 0
  · rw [if_pos h0] at ht
    by_cases e : row.getD i 0 = 0
    · omega
    · rw [if_neg e] at ht; omega
  · omega
theorem some_mem {p : List Int} (h : IsPat p) {t s : Int} (h0 : 0 ≤ t) (hs : s ∈ someF p t) : ((p.count s : Nat) : Int) = t ∧ (s ∈ firsts [] p ∨ s = (knownF p : Int)) := by
  unfold someF at hs
  by_cases ht : 0 < t
  · rw [if_pos ht] at hs
    obtain ⟨h1, h2⟩ := List.mem_filter.mp hs
    exact ⟨of_decide_eq_true h2, .inl h1⟩
  · rw [if_neg ht] at hs
    have e := List.mem_singleton.mp hs
    refine ⟨?_, .inr e⟩
    have hn : s ∉ p := fun q => h.fresh (e ▸ (firsts_mem [] p s).mpr (.inr q))
    rw [List.count_eq_zero.mpr hn]
    omega
theorem some_iff {p : List Int} (h : IsPat p) {t s : Int} (h0 : 0 ≤ t) (hc : ((p.count s : Nat) : Int) = t) (hs : s ∈ firsts [] p ∨ s = (knownF p : Int)) : s ∈ someF p t := by
  unfold someF
  by_cases ht : 0 < t
  · rw [if_pos ht]
    refine List.mem_filter.mpr ⟨(firsts_mem [] p s).mpr (.inr (List.count_pos_iff.mp (by omega))), decide_eq_true hc⟩
  · rw [if_neg ht]
    refine List.mem_singleton.mpr (hs.resolve_left fun q => ?_)
    have hp : s ∈ p := ((firsts_mem [] p s).mp q).resolve_left (by simp)
    have := List.count_pos_iff.mpr hp
    omega

/-! ### the pattern of a number -/
def prodFrom (row : List Int) : Nat → Nat → Int
  | _, 0 => 1
  | i, n + 1 => leftF row i * prodFrom row (i + 1) n
def manyF (row : List Int) : Int := prodFrom row 0 row.length
theorem prodFrom_pos {row : List Int} (hg : Good row) : ∀ (n i : Nat), i + n ≤ row.length → 0 < prodFrom row i n
  | 0, _, _ => by show (0 : Int) < 1; decide
  | n + 1, i, h => Int.mul_pos (by have := hg i (by omega); omega) (prodFrom_pos hg n (i + 1) (by omega))
theorem prodFrom_snoc (row : List Int) : ∀ (n i : Nat), prodFrom row i (n + 1) = prodFrom row i n * leftF row (i + n)
  | 0, i => by simp [prodFrom]
  | n + 1, i => by
    show leftF row i * prodFrom row (i + 1) (n + 1) = leftF row i * prodFrom row (i + 1) n * leftF row (i + (n + 1))
    rw [prodFrom_snoc row n (i + 1), Int.mul_assoc, show i + 1 + n = i + (n + 1) by omega]
def patGo (found : List Int) : List Int → Int → Int → List Int
  | [], _, _ => found
  | t :: r, many, number => patGo (found ++ [(someF found t).getD (number / (many / ((someF found t).length : Int))).toNat 0]) r (many / ((someF found t).length : Int)) (number % (many / ((someF found t).length : Int)))
def patF (row : List Int) (number : Int) : List Int := patGo [] row (manyF row) number
/-- one turn of pattern_of -/
theorem pat_turn {row found : List Int} {i n : Nat} (hg : Good row) (hp : IsPat found) (hc : countsF found = row.take i) (hn : i + (n + 1) = row.length) {number : Int} (h0 : 0 ≤ number) (h1 : number < prodFrom row i (n + 1)) :
    prodFrom row i (n + 1) / ((someF found (row.getD i 0)).length : Int) = prodFrom row (i + 1) n ∧ 0 ≤ number / prodFrom row (i + 1) n ∧ number / prodFrom row (i + 1) n < ((someF found (row.getD i 0)).length : Int) ∧ 0 < ((someF found (row.getD i 0)).length : Int) ∧ 0 < prodFrom row (i + 1) n := by
  have hl := some_len hc (hg i (by omega))
  have hpos := prodFrom_pos hg n (i + 1) (by omega)
  have hlp : 0 < leftF row i := by have := hg i (by omega); omega
  refine ⟨?_, Int.ediv_nonneg h0 (by omega), ?_, by omega, hpos⟩
  · rw [hl]
    show leftF row i * prodFrom row (i + 1) n / leftF row i = _
    rw [Int.mul_ediv_cancel_left _ (by omega)]
  · rw [hl]
    refine Int.ediv_lt_of_lt_mul hpos ?_
    exact h1
theorem pat_next {row found : List Int} {i : Nat} (hg : Good row) (hp : IsPat found) (hc : countsF found = row.take i) (hi : i < row.length) {s : Int} (hs : s ∈ someF found (row.getD i 0)) :
    IsPat (found ++ [s]) ∧ countsF (found ++ [s]) = row.take (i + 1) := by
  obtain ⟨h1, h2⟩ := some_mem hp (left_nn (hg i hi)) hs
  refine ⟨(hp.snoc h2).1, ?_⟩
  rw [countsF_snoc, hc, h1, List.take_add_one]
  congr 1
  rw [List.getD_eq_getElem?_getD, List.getElem?_eq_getElem hi]
  rfl
theorem getD_mem {l : List Int} {k : Nat} (h : k < l.length) : l.getD k 0 ∈ l := by
  rw [List.getD_eq_getElem?_getD, List.getElem?_eq_getElem h]
  exact List.getElem_mem h
theorem patGo_ok {row : List Int} (hg : Good row) : ∀ (n i : Nat) (found : List Int) (number : Int), i + n = row.length → IsPat found → countsF found = row.take i → 0 ≤ number → number < prodFrom row i n →
    IsPat (patGo found (row.drop i) (prodFrom row i n) number) ∧ countsF (patGo found (row.drop i) (prodFrom row i n) number) = row
  | 0, i, found, number, hn, hp, hc, h0, h1 => by
    rw [List.drop_of_length_le (by omega)]
    refine ⟨hp, ?_⟩
    show countsF found = row
    rw [hc, List.take_of_length_le (by omega)]
  | n + 1, i, found, number, hn, hp, hc, h0, h1 => by
    have hi : i < row.length := by omega
    have ed : row.drop i = row.getD i 0 :: row.drop (i + 1) := by
      rw [List.drop_eq_getElem_cons hi, List.getD_eq_getElem?_getD, List.getElem?_eq_getElem hi]
      rfl
    obtain ⟨a1, a2, a3, a4, a5⟩ := pat_turn hg hp hc hn h0 h1
    rw [ed]
    unfold patGo
    rw [a1]
    obtain ⟨b1, b2⟩ := pat_next hg hp hc hi (getD_mem (l := someF found (row.getD i 0)) (k := (number / prodFrom row (i + 1) n).toNat) (by omega))
    exact patGo_ok hg n (i + 1) _ _ (by omega) b1 b2 (Int.emod_nonneg _ (by omega)) (Int.emod_lt_of_pos _ a5)
theorem patF_ok {row : List Int} (hg : Good row) {number : Int} (h0 : 0 ≤ number) (h1 : number < manyF row) : IsPat (patF row number) ∧ countsF (patF row number) = row := by
  have := patGo_ok hg row.length 0 [] number (by omega) isPat_nil rfl h0 h1
  exact this
theorem manyF_pos {row : List Int} (hg : Good row) : 0 < manyF row := prodFrom_pos hg _ _ (by omega)

/-! ### the first wrong place -/
def firstWrongF (row : List Int) : Int := match (List.range row.length).find? (fun i => decide (leftF row i < 1)) with
  | some i => (i : Int)
  | none => -1
theorem firstWrong_good {row : List Int} : firstWrongF row = -1 ↔ Good row := by
  unfold firstWrongF
  cases e : (List.range row.length).find? (fun i => decide (leftF row i < 1)) with
  | none =>
    rw [List.find?_eq_none] at e
    refine ⟨fun _ i hi => ?_, fun _ => rfl⟩
    have := e i (List.mem_range.mpr hi)
    simp at this
    omega
  | some i =>
    have h1 := List.find?_some e
    have h2 := List.mem_range.mp (List.mem_of_find?_eq_some e)
    constructor
    · intro q
      have q' : (i : Int) = -1 := q
      omega
    · intro q
      have := q i h2
      simp at h1
      omega
theorem firstWrong_bad {row : List Int} (h : ¬ Good row) : ∃ i : Nat, firstWrongF row = (i : Int) ∧ i < row.length ∧ leftF row i < 1 := by
  unfold firstWrongF
  cases e : (List.range row.length).find? (fun i => decide (leftF row i < 1)) with
  | none =>
    refine absurd (firstWrong_good.mp ?_) h
    unfold firstWrongF
    rw [e]
  | some i => exact ⟨i, rfl, List.mem_range.mp (List.mem_of_find?_eq_some e), by simpa using List.find?_some e⟩
theorem firstWrong_at {row : List Int} {i : Nat} (hi : i < row.length) (h1 : ∀ j, j < i → 1 ≤ leftF row j) (h2 : leftF row i < 1) : firstWrongF row = (i : Int) := by
  unfold firstWrongF
  have e : (List.range row.length).find? (fun i => decide (leftF row i < 1)) = some i := by
    rw [List.find?_range_eq_some]
    refine ⟨decide_eq_true h2, List.mem_range.mpr hi, fun j hj => ?_⟩
    have := h1 j hj
    simp
    omega
  rw [e]
theorem leftF_bd (row : List Int) (i : Nat) : -(row.length : Int) - 1 ≤ leftF row i ∧ leftF row i ≤ (row.length : Int) + 1 := by
  unfold leftF
  have h1 := List.count_le_length (a := row.getD i 0 - 1) (l := row.take i)
  have h2 := List.count_le_length (a := row.getD i 0) (l := row.take i)
  rw [List.length_take] at h1 h2
  split
  · split <;> omega
  · omega
theorem prodFrom_le {row : List Int} (hg : Good row) (hl : row.length ≤ 20) : ∀ (n i : Nat), i + n ≤ row.length → prodFrom row i n ≤ 32 ^ n
  | 0, _, _ => by show (1 : Int) ≤ 1; decide
  | n + 1, i, h => by
    show leftF row i * prodFrom row (i + 1) n ≤ 32 ^ (n + 1)
    have a := (leftF_bd row i).2
    have b := hg i (by omega)
    have c := prodFrom_le hg hl n (i + 1) (by omega)
    have d := prodFrom_pos hg n (i + 1) (by omega)
    rw [Int.pow_succ, Int.mul_comm ((32 : Int) ^ n) 32]
    exact Int.mul_le_mul (by omega) c (by omega) (by omega)
theorem prodFrom_fit {row : List Int} (hg : Good row) (hl : row.length ≤ 20) {n i : Nat} (h : i + n ≤ row.length) : (prodFrom row i n).natAbs < 2 ^ 101 := by
  have a := prodFrom_le hg hl n i h
  have b := prodFrom_pos hg n i h
  have c : (32 : Int) ^ n ≤ 32 ^ 20 := by
    have : (32 : Nat) ^ n ≤ 32 ^ 20 := Nat.pow_le_pow_right (by decide) (by omega)
    exact_mod_cast this
  have d : (32 : Int) ^ 20 < 2 ^ 101 := by decide
  omega
/-- wrong, as the law says it -/
theorem wrong_iff (row : List Int) (i : Nat) : decide (leftF row i < 1) = (decide (row.getD i 0 < 0) || (decide (0 < row.getD i 0) && decide ((((row.take i).count (row.getD i 0 - 1) : Nat) : Int) ≤ (((row.take i).count (row.getD i 0) : Nat) : Int)))) := by
  unfold leftF
  by_cases h1 : row.getD i 0 < 0
  · rw [if_pos (by omega), if_neg (by omega), decide_eq_true h1]; rfl
  · by_cases h2 : row.getD i 0 = 0
    · rw [if_pos (by omega), if_pos h2, decide_eq_false h1, decide_eq_false (by omega : ¬ 0 < row.getD i 0)]; rfl
    · rw [if_neg (by omega), decide_eq_false h1, decide_eq_true (by omega : 0 < row.getD i 0)]
      simp only [Bool.false_or, Bool.true_and]
      congr 1
      apply propext
      omega
/-- what a Never shows -/
def neverB (ms : List Int) (i : Int) : Bool := decide (0 ≤ i) && decide (i < (ms.length : Int)) && decide (leftF ms i.toNat < 1)
end Oa
namespace Oa
open PySem PySem.Spec PyProof.Rows L2 Evl

/-! ### defs by their names -/
structure Def (P : Program) (w : World) (K : PySem.W.Frag) (mg : Str → Option Value) (base : Heap) (CX : CXT) (k : Nat) (x : Str) (ps : List Str) (sp : Sp) : Prop where
  ex : ∃ (f : Addr) (fd : FuncData), FnOk P w K mg base CX k f fd ps sp ∧ mg x = some (.ref f) ∧ PySem.W.keepIn K (.ref f) = true ∧ Binds K fd ps []
/-- a def as the top has left it -/
structure Pl (K : PySem.W.Frag) (mg : Str → Option Value) (x : Str) (st : Stmt) (ps : List Str) : Prop where
  ex : ∃ (f : Addr) (fd : FuncData), Fun K x x st f fd ∧ mg x = some (.ref f) ∧ Binds K fd ps []
section
variable {P : Program} {w : World} {K : PySem.W.Frag} {mg : Str → Option Value} {base : Heap}
theorem Def.mono {CX : CXT} {j k : Nat} {x : Str} {ps : List Str} {sp : Sp} (d : Def P w K mg base CX j x ps sp) (h : j ≤ k) : Def P w K mg base CX k x ps sp := by
  obtain ⟨f, fd, F, a, b, c⟩ := d.ex
  exact ⟨f, fd, F.mono h, a, b, c⟩
theorem Def.imp {CX : CXT} {k : Nat} {x : Str} {ps : List Str} {sp sp' : Sp} (d : Def P w K mg base CX k x ps sp) (h : ∀ vs H Q E, sp' vs H Q E → sp vs H Q E) : Def P w K mg base CX k x ps sp' := by
  obtain ⟨f, fd, F, a, b, c⟩ := d.ex
  exact ⟨f, fd, F.imp h, a, b, c⟩
theorem Pl.ok {x : Str} {st : Stmt} {N ps : List Str} {k : Nat} {sp : Sp} (p : Pl K mg x st ps) (S : FnScope N ps (defScope st)) (len : ∀ vs H Q E, sp vs H Q E → vs.length = ps.length)
    (hbody : ∀ (f : Addr) (cdv : Value) (A : Around) (outer : List Env) (s : Shared) (H : Hp) (vs : List V) (Q : VK) (E : XK), Room k (A.deeper (envOfC x (defScope st) s.heap.objs.size f cdv)) → sp vs H Q E →
      ∃ t, PSs (cxOf CX0 P w K mg base N x (defScope st) f cdv A outer s H E).nox (defBody st) t ∧ t { nx := fun _ H' => Q .non H', rt := Q } (start N vs) H) : Def P w K mg base CX0 (k + 1) x ps sp := by
  obtain ⟨f, fd, F, hm, hb⟩ := p.ex
  exact ⟨f, fd, F.ok S len fun cdv A outer s H vs Q E hr h => hbody f cdv A outer s H vs Q E hr h, hm, F.kp, hb⟩
theorem pl_mk {h : Heap} {x : Str} {st : Stmt} {ps : List Str} {f : Addr} {oc : Value} {od an : Option Addr} {osl : Array (Option Value)} {kV doc pm cdv ct : Value} (X : K.In h) (G : h.Ns mainGlobals mg)
    (a : PySem.W.nsIn K mainGlobals x = some (some (.ref f)))
    (l : K.lookup f = some ⟨oc, od, .func (PySem.W.fnOf x x (defArgs st) (defBody st) (defScope st) .none kV doc pm an cdv ct), osl⟩)
    (c : PySem.W.codeIn K cdv x = true) (k : PySem.W.keepIn K (.ref f) = true)
    (hb : ∀ (kV doc pm : Value) (an : Option Addr) (cdv ct : Value) (us : List Value), us.length = ps.length → bindArgs (PySem.W.fnOf x x (defArgs st) (defBody st) (defScope st) .none kV doc pm an cdv ct) ⟨us, []⟩ = pure (ps.zip us)) : Pl K mg x st ps :=
  ⟨f, _, fun_mk l c k, PySem.W.mg_of X G a, (fun_mk l c k).binds hb⟩
end
section
variable {X : Cx} {CX : CXT} {j k : Nat} {x : Str} {ps : List Str} {sp : Sp} {E : XK} {p pos : Pos} {e : Expr} {es : List Expr} {t : TA}
theorem pe_fn (d : Def X.prog X.w X.K X.mg X.base CX j x ps sp) (hj : j ≤ k) (hr : Room k X.A) (hg : Gl X x) (hx : Passes CX X E) (ha : PA X (e :: es) t)
    (hdb : (x == ("__debug__" : Str)) = false := by decide) (he : starEach (e :: es) X.env = (false, eval e X.env) :: starEach es X.env := by rfl) (hpl : (backTo pos (starEach es X.env)).any (·.1) = false := by rfl) :
    PE X (.Call (.Name x p) (e :: es) [] pos) (tCall sp [] E t) := by
  obtain ⟨f, fd, F, a, b, c⟩ := d.ex
  exact pe_call F (hr.mono hj) hg a b c .nil hx ha hdb he hpl
theorem pe_fn0 (d : Def X.prog X.w X.K X.mg X.base CX j x ps sp) (hj : j ≤ k) (hr : Room k X.A) (hg : Gl X x) (hx : Passes CX X E)
    (hdb : (x == ("__debug__" : Str)) = false := by decide) : PE X (.Call (.Name x p) [] [] pos) (tCall sp [] E tNil) := by
  obtain ⟨f, fd, F, a, b, c⟩ := d.ex
  exact pe_call0 F (hr.mono hj) hg a b c .nil hx hdb
/-- * of two ints that the model multiplies -/
theorem op_mulK : OpR X (binaryOp .Mult) (rI IntMulOk fun i j => .int (i * j)) := opI fun i j t u s Q E hc h => PyProof.Rows.mul_int h hc
end

/-! ### sizes of ints -/
def FitN (b : Nat) (c : Int) : Prop := ∃ m : Nat, 64 ≤ m ∧ m ≤ b ∧ c.natAbs < 2 ^ m
abbrev Fit (c : Int) : Prop := FitN 1048640 c
/-- a cell of the script -/
abbrev FitS (c : Int) : Prop := FitN 1048600 c
theorem FitN.of_bits {z : Int} (h : Builtin.Int.intBits z ≤ 1048576) : FitS z := by
  refine ⟨max 64 (z.natAbs.log2 + 1), Nat.le_max_left _ _, ?_, ?_⟩
  · have : z.natAbs.log2 + 1 ≤ 1048577 := by
      unfold Builtin.Int.intBits at h
      split at h
      · rename_i e
        have e' : z = 0 := by simpa using e
        subst e'
        decide
      · omega
    omega
  · exact Nat.lt_of_lt_of_le Nat.lt_log2_self (Nat.pow_le_pow_right (by decide) (Nat.le_max_right _ _))
theorem FitN.mono {b c : Nat} {z : Int} (h : FitN b z) (hb : b ≤ c) : FitN c z := by
  obtain ⟨m, h1, h2, h3⟩ := h
  exact ⟨m, h1, Nat.le_trans h2 hb, h3⟩
theorem FitN.zero {b : Nat} (h : 64 ≤ b) : FitN b 0 := ⟨64, Nat.le_refl _, h, by decide⟩
theorem fit_bits {c : Int} {m : Nat} (hm : 0 < m) (h : c.natAbs < 2 ^ m) : Builtin.Int.intBits c ≤ m := by
  unfold Builtin.Int.intBits
  split
  · exact Nat.zero_le _
  · rename_i e
    have e' : c.natAbs ≠ 0 := fun q => e (by simpa using Int.natAbs_eq_zero.mp q)
    have := (Nat.log2_lt e').mpr h
    omega
theorem fit_add {c d : Int} {m : Nat} (h1 : c.natAbs < 2 ^ m) (h2 : d.natAbs < 2 ^ m) : (c + d).natAbs < 2 ^ (m + 1) := by
  have := Int.natAbs_add_le c d
  rw [Nat.pow_succ]
  omega
theorem fit_small {d : Int} {m : Nat} (hm : 64 ≤ m) (h : d.natAbs < 18446744073709551616) : d.natAbs < 2 ^ m :=
  Nat.lt_of_lt_of_le h (Nat.le_trans (by decide : 18446744073709551616 ≤ 2 ^ 64) (Nat.pow_le_pow_right (by decide) hm))
theorem FitN.add {b : Nat} {c d : Int} (h : FitN b c) (hd : d.natAbs < 18446744073709551616) : FitN (b + 1) (c + d) := by
  obtain ⟨m, h1, h2, h3⟩ := h
  exact ⟨m + 1, by omega, by omega, fit_add h3 (fit_small h1 hd)⟩
theorem fit_cell {b : Nat} {ns : List Int} (hb : 64 ≤ b) (h : ∀ z ∈ ns, FitN b z) (k : Nat) : FitN b (ns.getD k 0) := by
  rw [List.getD_eq_getElem?_getD]
  cases e : ns[k]? with
  | none => exact FitN.zero hb
  | some z => exact h z (List.mem_of_getElem? e)
theorem mulOk_of {c d : Int} {m n : Nat} (h1 : Builtin.Int.intBits c ≤ m) (h2 : Builtin.Int.intBits d ≤ n) (h : m + n ≤ 134217728) : IntMulOk c d := by
  unfold IntMulOk
  intro z
  rw [Bool.and_eq_true] at z
  have z2 := z.2
  unfold Builtin.Int.intTooBig at z2
  have z3 := of_decide_eq_true z2
  have e : bitsLine = 134217728 := by decide
  rw [e] at z3
  omega

/-! ### more that evaluates -/
section
variable {K : PySem.W.Frag} {σ : L2.St} {H H' : Hp} {ta tb te tx : TE} {t u : TT} {x y z v : V} {r : R2} {D : Ends} {tu tw tz : TS} {g : TG}
theorem spv {sp : Sp} {vs : List V} {z : V} (h : ∀ H1, Ex H H1 → ∀ Q : VK, RetV z H1 Q → ∀ E : XK, sp vs H1 Q E) : SpV sp vs H z := fun H1 e Q q E => h H1 e Q (fun H2 e2 => q H2 e2) E
theorem spl {sp : Sp} {vs : List V} {zs : List V} (h : ∀ H1, Ex H H1 → ∀ Q : VK, RetL zs H1 Q → ∀ E : XK, sp vs H1 Q E) : SpL sp vs H zs := fun H1 e Q q E => h H1 e Q (fun p H2 n e2 a => q p H2 n e2 a) E
theorem rv_ixT' {p : Addr} {xs : List V} {i : Int} (h : H p = some (.tup xs)) (ha : atI xs i = some v) : RV (rIxT K) (.ref p) (.int i) H v := rv_ixT (st_of h) ha
/-- (a, b, ..)[i] -/
theorem ev_menu {xs : List V} {i : Int} (ha : EvU ta σ H xs) (hb : Ev tb σ H (.int i)) (hi : atI xs i = some v) : Ev (tOp (rIxT K) ta tb) σ H v := fun H1 e Q q =>
  ha H1 e _ fun p H2 n e2 a => hb H2 (e.trans e2) _ fun H3 e3 => rv_ixT (K := K) (st_of (e3 _ _ a)) hi H3 (Ex.refl _) Q fun H4 e4 => q H4 (e2.trans (e3.trans e4))
theorem tyx_list {a : Addr} {xs : List V} (h : SqL K H a xs) : TyX K H (.ref a) (.type "list") := by
  rcases h with (h | ⟨o, h⟩) | ⟨o, its, n, h1, h2, _⟩
  · exact .base (.lst h)
  · exact .base (.frz h)
  · exact .kList h1 h2
theorem tyx_int (i : Int) : TyX K H (.int i) (.type "int") := .base (.int i)
/-- isinstance(x, T), T a built-in class; the type's fact stands at every later heap -/
theorem ev_isi {ta : TA} {m n : String} {b : Bool} (h : EvA ta σ H [x, .ty n]) (ty : ∀ H1, Ex H H1 → TyX K H1 x (.type m)) (kb : kitB m n = some b) : Ev (tCB (rIsi K) ta) σ H (.bl b) :=
  ev_cb h fun H1 e Q q => ⟨x, .ty n, .type m, .type n, b, rfl, .ty n, ty H1 e, kit_ty kb, q H1 (Ex.refl _)⟩
/-- l.count(k) of ints -/
theorem ev_count {a : Addr} {ns : List Int} {i : Int} (ha : Ev ta σ H (.ref a)) (h : SqL K H a (ns.map V.int)) (hi : Ev te σ H (.int i)) : Ev (tBM K "list" (rCntI K) ta (tCons te tNil)) σ H (.int ((ns.count i : Nat) : Int)) := fun H1 e Q q =>
  ha H1 e _ fun H2 e2 => ⟨.inl ⟨rfl, _, ex_l (e.trans e2) h⟩, hi H2 (e.trans e2) _ fun H3 e3 => ⟨a, ns, i, rfl, rfl, ex_l (e.trans (e2.trans e3)) h, q H3 (e2.trans e3)⟩⟩
/-- .. of a new list -/
theorem ev_countL {ns : List Int} {i : Int} (ha : EvL ta σ H (ns.map V.int)) (hi : Ev te σ H (.int i)) : Ev (tBM K "list" (rCntI K) ta (tCons te tNil)) σ H (.int ((ns.count i : Nat) : Int)) := fun H1 e Q q =>
  ha H1 e _ fun p H2 n e2 a => ⟨.inl ⟨rfl, _, sq_of a⟩, hi H2 (e.trans e2) _ fun H3 e3 => ⟨p, ns, i, rfl, rfl, sq_of (e3 _ _ a), q H3 (e2.trans e3)⟩⟩
end
/-- a slice of a list of ints, from the start -/
theorem cut_to (ns : List Int) (k : Nat) : cutV (ns.map V.int) none (some (k : Int)) = (ns.take k).map V.int := by
  unfold cutV
  rw [HT.sIx_none, HT.sIx_nat, List.drop_zero, List.length_map, List.map_take, Nat.sub_zero]
  by_cases h : k ≤ ns.length
  · rw [Nat.min_eq_left h]
  · rw [Nat.min_eq_right (by omega), List.take_of_length_le (by rw [List.length_map]; omega), List.take_of_length_le (by rw [List.length_map]; omega)]
theorem cut_from (ns : List Int) (k : Nat) : cutV (ns.map V.int) (some (k : Int)) none = (ns.drop k).map V.int := by
  unfold cutV
  rw [HT.sIx_none, HT.sIx_nat, List.length_map, List.map_drop]
  by_cases h : k ≤ ns.length
  · rw [Nat.min_eq_left h]
    exact List.take_of_length_le (by rw [List.length_drop, List.length_map]; omega)
  · rw [Nat.min_eq_right (by omega), List.drop_of_length_le (by rw [List.length_map]; omega), List.drop_of_length_le (by rw [List.length_map]; omega), List.take_nil]

/-! ### comprehensions -/
theorem given_all (n : Nat) (v : Nat → V) : given n (fun _ => true) v = (List.range n).map v := by
  unfold given
  rw [List.filter_eq_self.mpr (fun _ _ => rfl)]
section
variable {K : PySem.W.Frag} {σ : L2.St} {H H' : Hp} {ta tb te tx : TE} {t u : TT} {x y z v : V} {r : R2} {D : Ends} {tu tw tz : TS} {g : TG}
theorem et_yes : EvT tYes σ H true := fun H1 e Q q => q H1 (Ex.refl _)
theorem el_is {xs ys : List V} (h : EvL te σ H xs) (e : xs = ys) : EvL te σ H ys := e ▸ h
/-- all(..), any(..) of a new list of bools -/
theorem ev_all {bs : List Bool} (h : EvL te σ H (bs.map V.bl)) : Ev (tCB (rAll K) (tCons te tNil)) σ H (.bl (bs.all id)) := fun H1 e Q q =>
  h H1 e _ fun p H2 n e2 a => ⟨p, bs, rfl, sq_of a, q H2 e2⟩
theorem ev_any {bs : List Bool} (h : EvL te σ H (bs.map V.bl)) : Ev (tCB (rAny K) (tCons te tNil)) σ H (.bl (bs.any id)) := fun H1 e Q q =>
  h H1 e _ fun p H2 n e2 a => ⟨p, bs, rfl, sq_of a, q H2 e2⟩
/-- the turns of enumerate, for a comprehension -/
theorem lc_enum {a : Addr} {xs : List V} {j1 j2 : Nat} {vs : List Nat} {H1 : Hp} {Dl : Addr} {Qd : Hp → Prop} (Pv : Nat → Hp → Prop) (h0 : Pv 0 (upd H1 Dl (.lst []))) (hl : ∀ i H, i ≤ xs.length → Pv i H → SqL K H a xs)
    (hs : ∀ i x H T, xs[i]? = some x → Pv i H → H T = none → wipe (((wipe σ vs).set j1 (some (.int (i : Int)))).set j2 (some x)) vs = wipe σ vs ∧ t (((wipe σ vs).set j1 (some (.int (i : Int)))).set j2 (some x)) (upd H T (.tup [.int (i : Int), x])) fun b H3 =>
      if b = true then te (((wipe σ vs).set j1 (some (.int (i : Int)))).set j2 (some x)) H3 fun y H4 => ∃ acc, H4 Dl = some (.lst acc) ∧ acc.length < sizeLine ∧ Pv (i + 1) (upd H4 Dl (.lst (acc ++ [y]))) else Pv (i + 1) H3) (hd : ∀ H, Pv xs.length H → Qd H) :
    ∃ W : Nat → Nat → Hp → Prop, (∃ m, W 0 m (upd H1 Dl (.lst []))) ∧ ∀ i m H, W i m H →
      ((Ite K a).stop i H ∧ Qd H) ∨ ((Ite K a).go i H ∧ ∃ Nx : Hp → Prop, (∀ H', Nx H' → ∃ m', m' < m ∧ W (i + 1) m' H') ∧ ∀ x H', (Ite K a).yld i H x H' → (gTup K 2 (gCons (gName j1) (gCons (gName j2) gNil))) x (wipe σ vs) H' fun σ2 H2 => wipe σ2 vs = wipe σ vs ∧ t σ2 H2 fun b H3 =>
        if b = true then te σ2 H3 fun y H4 => ∃ acc, H4 Dl = some (.lst acc) ∧ acc.length < sizeLine ∧ Nx (upd H4 Dl (.lst (acc ++ [y]))) else Nx H3) := by
  refine ⟨fun i m H => i + m = xs.length ∧ Pv i H, ⟨xs.length, by omega, h0⟩, fun i m H hW => ?_⟩
  obtain ⟨em, hP⟩ := hW
  have hA := hl i H (by omega) hP
  by_cases hi : i < xs.length
  · refine .inr ⟨⟨xs, xs[i], hA, List.getElem?_eq_getElem hi⟩, Pv (i + 1), fun H' hp => ⟨m - 1, by omega, by omega, hp⟩, fun x H' hy => ?_⟩
    obtain ⟨T, x1, rfl, nT, rfl, f⟩ := hy
    have ex := f xs hA
    exact ⟨T, [.int (i : Int), x1], rfl, st_of upd_same, rfl, _, _, rfl, _, _, rfl, rfl, hs i x1 H T ex hP nT⟩
  · have ei : i = xs.length := by omega
    subst ei
    exact .inl ⟨⟨xs, hA, Nat.le_refl _⟩, hd H hP⟩
theorem el_lcE {a : Addr} {xs : List V} {tl : TE} {j1 j2 : Nat} {vs : List Nat} (f : Nat → Bool) (v : Nat → V) (h : Ev tl σ H (.ref a)) (hx : SqL K H a xs) (hz : xs.length ≤ 40000) (hw : ∀ x y, wipe (((wipe σ vs).set j1 (some x)).set j2 (some y)) vs = wipe σ vs)
    (ht : ∀ (i : Nat) (x : V) H1, Ex H H1 → xs[i]? = some x → EvT t (((wipe σ vs).set j1 (some (.int (i : Int)))).set j2 (some x)) H1 (f i)) (he : ∀ (i : Nat) (x : V) H1, Ex H H1 → xs[i]? = some x → f i = true → Ev te (((wipe σ vs).set j1 (some (.int (i : Int)))).set j2 (some x)) H1 (v i)) :
    EvL (tLc (iEnum K (tCons tl tNil)) (gTup K 2 (gCons (gName j1) (gCons (gName j2) gNil))) t te vs) σ H (given xs.length f v) := fun H0 e Q q => h H0 e _ fun H1 e1 => ⟨a, xs, rfl, ex_l (e.trans e1) hx, fun Dl hD =>
  lc_enum (xs := xs) (Cw H1 f v Dl) ⟨hD, Ex.new hD, upd_same⟩ (fun i H' _ p => ex_l ((e.trans e1).trans p.2.1) hx) (fun i x H' T hi p nT => by
    have nD : Dl ≠ T := ne_of_none p.2.2 nT
    have p' : Cw H1 f v Dl i (upd H' T (.tup [.int (i : Int), x])) := ⟨p.1, p.2.1.trans (Ex.new nT), by rw [upd_ne nD]; exact p.2.2⟩
    exact ⟨hw _ _, cw_turn p' (by have := (List.getElem?_eq_some_iff.mp hi).1; omega) (ht i x H1 (e.trans e1) hi) (fun hf => he i x H1 (e.trans e1) hi hf)⟩)
    (fun H' p => q Dl H' (fresh_back e1 p.1) (e1.trans p.2.1) p.2.2)⟩
/-- all items of a list of ints pass -/
theorem range_true (n : Nat) : (List.range n).map (fun _ => V.bl true) = (List.replicate n true).map V.bl := by
  induction n with
  | zero => rfl
  | succ n ih => rw [List.range_succ, List.map_append, ih, List.replicate_succ', List.map_append]; rfl
theorem rep_true (n : Nat) : (List.replicate n true).all id = true := by
  induction n with
  | zero => rfl
  | succ n ih => rw [List.replicate_succ, List.all_cons, ih]; rfl
/-- all([f(x) for x in xs]), each True -/
theorem ev_allL {a : Addr} {xs : List V} {tl : TE} {j : Nat} {vs : List Nat} (h : Ev tl σ H (.ref a)) (hx : SqL K H a xs) (hz : xs.length ≤ 40000) (hw : ∀ x, wipe ((wipe σ vs).set j (some x)) vs = wipe σ vs)
    (he : ∀ (i : Nat) (x : V) H1, Ex H H1 → xs[i]? = some x → Ev te ((wipe σ vs).set j (some x)) H1 (.bl true)) : Ev (tCB (rAll K) (tCons (tLc (iList K tl) (gName j) tYes te vs) tNil)) σ H (.bl true) :=
  ev_is (ev_all (bs := List.replicate xs.length true) (el_is (el_lcL (fun _ => true) (fun _ => .bl true) h hx hz hw (fun _ _ _ _ _ => et_yes) (fun i x H1 e hi _ => he i x H1 e hi)) (by rw [given_all, range_true]))) (by rw [rep_true])
end
theorem int_at {ns : List Int} {i : Nat} {x : V} (h : (ns.map V.int)[i]? = some x) : ∃ n, ns[i]? = some n ∧ x = .int n := by
  rw [List.getElem?_map] at h
  cases e : ns[i]? with
  | none => rw [e] at h; cases h
  | some n => rw [e] at h; exact ⟨n, rfl, (Option.some.inj h).symm⟩

/-! ### data -/
theorem dp_ints {K : PySem.W.Frag} {H : Hp} : ∀ ns : List Int, DpAll K H (ns.map V.int) (ns.map PyData.int)
  | [] => .nil
  | n :: r => .cons (.int n) (dp_ints r)
theorem dp_list {K : PySem.W.Frag} {H : Hp} {a : Addr} {ns : List Int} (h : SqL K H a (ns.map V.int)) : Dp K H (.ref a) (.list (ns.map .int)) := .lst h (dp_ints ns)
theorem lay_ints : ∀ ns : List Int, PyData.canLayAll0 (ns.map PyData.int) = true
  | [] => by simp only [List.map_nil, PyData.canLayAll0]
  | n :: r => by simp only [List.map_cons, PyData.canLayAll0, PyData.canLay0, lay_ints r, Bool.and_self]
theorem depth_ints : ∀ ns : List Int, PyData.depthAll (ns.map PyData.int) = 0
  | [] => by simp only [List.map_nil, PyData.depthAll]
  | n :: r => by simp only [List.map_cons, PyData.depthAll, PyData.depth, depth_ints r, Nat.max_self]
theorem shaped_ints (ns : List Int) : SeqAt.shaped (.list (ns.map .int)) = true := by
  unfold SeqAt.shaped
  simp only [PyData.canLay0, lay_ints, PyData.depth, depth_ints, Bool.true_and]
  decide
theorem eqv_ints : ∀ ns ms : List Int, PyData.eqvAll (ns.map .int) (ms.map .int) = decide (ns = ms)
  | [], [] => by simp [PyData.eqvAll]
  | [], _ :: _ => by simp [PyData.eqvAll]
  | _ :: _, [] => by simp [PyData.eqvAll]
  | n :: r, m :: s => by
    simp only [List.map_cons, PyData.eqvAll, PyData.eqv, eqv_ints r s]
    by_cases h : n = m <;> by_cases h2 : r = s <;> simp [h, h2]
theorem eqv_list (ns ms : List Int) : PyData.eqv (.list (ns.map .int)) (.list (ms.map .int)) = decide (ns = ms) := by
  simp only [PyData.eqv, eqv_ints]
section
variable {K : PySem.W.Frag} {σ : L2.St} {H H' : Hp} {ta tb te tx : TE} {t u : TT} {x y z v : V} {r : R2} {D : Ends} {tu tw tz : TS} {g : TG}
theorem rv_neI {p q : Addr} {ns ms : List Int} (h1 : SqL K H p (ns.map V.int)) (h2 : SqL K H q (ms.map V.int)) : RV (rNeD K) (.ref p) (.ref q) H (.bl (!decide (ns = ms))) := fun H1 e Q k =>
  ⟨_, _, dp_list (ex_l e h1), dp_list (ex_l e h2), shaped_ints ns, shaped_ints ms, by rw [eqv_list]; exact k H1 (Ex.refl _)⟩
theorem rv_eqI {p q : Addr} {ns ms : List Int} (h1 : SqL K H p (ns.map V.int)) (h2 : SqL K H q (ms.map V.int)) : RV (rEqD K) (.ref p) (.ref q) H (.bl (decide (ns = ms))) := fun H1 e Q k =>
  ⟨_, _, dp_list (ex_l e h1), dp_list (ex_l e h2), shaped_ints ns, shaped_ints ms, by rw [eqv_list]; exact k H1 (Ex.refl _)⟩

theorem rv_neSame {p q : Addr} {ns : List Int} (h1 : SqL K H p (ns.map V.int)) (h2 : SqL K H q (ns.map V.int)) : RV (rNeD K) (.ref p) (.ref q) H (.bl false) := by
  have h := rv_neI h1 h2
  rw [decide_eq_true rfl] at h
  exact h
theorem rv_eqSame {p q : Addr} {ns : List Int} (h1 : SqL K H p (ns.map V.int)) (h2 : SqL K H q (ns.map V.int)) : RV (rEqD K) (.ref p) (.ref q) H (.bl true) := by
  have h := rv_eqI h1 h2
  rw [decide_eq_true rfl] at h
  exact h

/-! ### in, index of ints -/
theorem flat_ints (ns : List Int) : (ns.map V.int).all flatV = true := by
  induction ns with
  | nil => rfl
  | cons n r ih => rw [List.map_cons, List.all_cons, ih]; rfl
theorem in_ints (i : Int) (ns : List Int) : inV (.int i) (ns.map V.int) = decide (i ∈ ns) := by
  unfold inV
  induction ns with
  | nil => rfl
  | cons n r ih =>
    rw [List.map_cons, List.any_cons, ih]
    show ((n == i) || decide (i ∈ r)) = _
    by_cases h : n = i
    · subst h; simp
    · have h' : ¬ i = n := fun e => h e.symm
      simp [h, h']
theorem idx_get {l : List Int} {s : Int} (h : s ∈ l) : l[l.idxOf s]? = some s := by
  induction l with
  | nil => cases h
  | cons a r ih =>
    rw [List.idxOf_cons]
    by_cases e : a = s
    · subst e; simp
    · have q : (a == s) = false := by simpa using e
      rw [q]
      show (a :: r)[r.idxOf s + 1]? = some s
      rw [List.getElem?_cons_succ]
      refine ih ?_
      rcases List.mem_cons.mp h with z | z
      · exact absurd z.symm e
      · exact z
theorem idx_first {l : List Int} {s : Int} {m : Nat} {z : Int} (hm : m < l.idxOf s) (hz : l[m]? = some z) : z ≠ s := by
  induction l generalizing m with
  | nil => simp at hz
  | cons a r ih =>
    rw [List.idxOf_cons] at hm
    by_cases e : a = s
    · subst e; simp at hm
    · have q : (a == s) = false := by simpa using e
      rw [q] at hm
      have hm' : m < r.idxOf s + 1 := hm
      cases m with
      | zero => simp at hz; subst hz; exact e
      | succ m =>
        have hm2 : m < r.idxOf s := by omega
        exact ih hm2 (by simpa using hz)
/-- l.index(k) of ints, k in l -/
theorem ev_index {a : Addr} {ns : List Int} {i : Int} (ha : Ev ta σ H (.ref a)) (h : SqL K H a (ns.map V.int)) (hi : Ev te σ H (.int i)) (hm : i ∈ ns) : Ev (tBM K "list" (rIndex K) ta (tCons te tNil)) σ H (.int ((ns.idxOf i : Nat) : Int)) := fun H1 e Q q =>
  ha H1 e _ fun H2 e2 => ⟨.inl ⟨rfl, _, ex_l (e.trans e2) h⟩, hi H2 (e.trans e2) _ fun H3 e3 => ⟨a, ns.map V.int, .int i, ns.idxOf i, .int i, rfl, rfl, ex_l (e.trans (e2.trans e3)) h, rfl, flat_ints ns, by rw [List.getElem?_map, idx_get hm]; rfl, by show (i == i) = true; simp,
    fun m z hm' hz => by
      obtain ⟨n, hn, rfl⟩ := int_at hz
      show (n == i) = false
      simpa using idx_first hm' hn, q H3 (e2.trans e3)⟩⟩

/-! ### dicts of ints -/
theorem ev_dget2 {d : Addr} {kvs : List (Key × V)} {k : Key} (hd : Ev ta σ H (.ref d)) (h : H d = some (.dK kvs)) (hk : Ev tb σ H (kV k)) (hx : Ev tx σ H z) : Ev (tDGet2 ta tb tx) σ H ((valV kvs k).getD z) := fun H1 e Q q =>
  hd H1 e _ fun H2 e2 => ⟨d, rfl, .inl ⟨kvs, .inl ((e.trans e2) _ _ h)⟩, hk H2 (e.trans e2) _ fun H3 e3 => hx H3 (e.trans (e2.trans e3)) _ fun H4 e4 => ⟨_, DGet.k ((e.trans (e2.trans (e3.trans e4))) _ _ h), q H4 (e2.trans (e3.trans e4))⟩⟩
theorem ev_dget {d : Addr} {kvs : List (Key × V)} {k : Key} (hd : Ev ta σ H (.ref d)) (h : H d = some (.dK kvs)) (hk : Ev tb σ H (kV k)) (hv : valV kvs k = some v) : Ev (tDGet ta tb) σ H v := fun H1 e Q q =>
  hd H1 e _ fun H2 e2 => hk H2 (e.trans e2) _ fun H3 e3 => ⟨d, v, rfl, hv ▸ DGet.k ((e.trans (e2.trans e3)) _ _ h), q H3 (e2.trans e3)⟩
theorem s_dput {d : Addr} {kvs : List (Key × V)} {k : Key} (h : H d = some (.dK kvs)) (hv : Ev te σ H v) (hd : Ev ta σ H (.ref d)) (hk : Ev tb σ H (kV k)) (hz : kvs.length < 100000) (c : ∀ H1, Ex H H1 → D.nx σ (upd H1 d (.dK (putK kvs k v)))) :
    sDPut ta tb te D σ H :=
  hv H (Ex.refl _) _ fun H1 e1 => hd H1 e1 _ fun H2 e2 => hk H2 (e1.trans e2) _ fun H3 e3 => ⟨d, _, rfl, DPut.k ((e1.trans (e2.trans e3)) _ _ h) (sz_lt hz), c H3 (e1.trans (e2.trans e3))⟩
theorem ev_lenD {d : Addr} {kvs : List (Key × V)} (hd : Ev ta σ H (.ref d)) (h : H d = some (.dK kvs)) : Ev (tCB (fun xs H Q => ∃ a kvs, xs = [V.ref a] ∧ H a = some (.dK kvs) ∧ Q (.int kvs.length) H) (tCons ta tNil)) σ H (.int (kvs.length : Int)) := fun H1 e Q q =>
  hd H1 e _ fun H2 e2 => ⟨d, kvs, rfl, (e.trans e2) _ _ h, q H2 e2⟩
theorem q_setd {d : Addr} {kvs : List (Key × V)} {k : Key} (h : H d = some (.dK kvs)) (hd : Ev ta σ H (.ref d)) (hk : Ev tb σ H (kV k)) (hx : Ev tx σ H z) (hz : kvs.length < 100000)
    (k1 : ∀ v H1, Ex H H1 → valV kvs k = some v → tz D σ H1) (k2 : ∀ H1, Ex H H1 → valV kvs k = none → tz D σ (upd H1 d (.dK (putK kvs k z)))) : tSeq (tDrop (tDSetd ta tb tx)) tz D σ H :=
  hd H (Ex.refl _) _ fun H1 e1 => ⟨d, rfl, .inl ⟨kvs, .inl (e1 _ _ h)⟩, hk H1 e1 _ fun H2 e2 => hx H2 (e1.trans e2) _ fun H3 e3 =>
    ⟨kvs, k, (e1.trans (e2.trans e3)) _ _ h, rfl, sz_lt hz, fun v hv => k1 v H3 (e1.trans (e2.trans e3)) hv, fun hn => k2 H3 (e1.trans (e2.trans e3)) hn⟩⟩

/-! ### ranges with a step, min, max -/
def rMin2 : List V → Hp → VK → Prop := fun xs H Q => ∃ i j, xs = [.int i, .int j] ∧ Q (.int (if j < i then j else i)) H
theorem ev_min2 {i j : Int} (ha : Ev ta σ H (.int i)) (hb : Ev tb σ H (.int j)) : Ev (tCB rMin2 (tCons ta (tCons tb tNil))) σ H (.int (if j < i then j else i)) := fun H1 e Q q =>
  ha H1 e _ fun H2 e2 => hb H2 (e.trans e2) _ fun H3 e3 => ⟨i, j, rfl, q H3 (e2.trans e3)⟩
theorem rgc_up {j c : Int} (hj : 0 ≤ j) (hj2 : j ≤ 100000) (hc : 0 < c) (hc2 : c ≤ 1000) : RgC 0 j c (Builtin.Range.rangeSize 0 j c).toNat := by
  have hd : 0 ≤ (j - 0 - 1) / c + 1 ∨ j ≤ 0 := by
    by_cases h : j ≤ 0
    · exact .inr h
    · have := Int.ediv_nonneg (a := j - 0 - 1) (b := c) (by omega) (by omega)
      exact .inl (by omega)
  have hd2 : (j - 0 - 1) / c ≤ 100000 := by
    by_cases h : 0 ≤ j - 0 - 1
    · exact Int.le_trans (Int.ediv_le_self c h) (by omega)
    · have : (j - 0 - 1) / c < 0 := Int.ediv_neg_of_neg_of_pos (by omega) hc
      omega
  have hs0 : 0 ≤ Builtin.Range.rangeSize 0 j c := by
    unfold Builtin.Range.rangeSize
    rw [if_pos hc]
    split <;> omega
  have hs1 : Builtin.Range.rangeSize 0 j c ≤ 100001 := by
    unfold Builtin.Range.rangeSize
    rw [if_pos hc]
    split <;> omega
  have fits : ∀ z : Int, -1000000 ≤ z → z ≤ 1000000 → Builtin.Range.rangeFitsLong z = true := fun z h1 h2 => by
    unfold Builtin.Range.rangeFitsLong
    simp only [Bool.and_eq_true, decide_eq_true_eq]
    omega
  refine ⟨by omega, by omega, ?_, by omega⟩
  unfold Builtin.Range.small
  rw [fits 0 (by decide) (by decide), fits j (by omega) (by omega), fits c (by omega) (by omega), fits _ (by omega) (by omega), if_pos hc, fits (j + (c - 1)) (by omega) (by omega)]
  simp
theorem rgc_lt {j c : Int} {i : Nat} (hc : 0 < c) (hi : i < (Builtin.Range.rangeSize 0 j c).toNat) : (i : Int) * c < j := by
  unfold Builtin.Range.rangeSize at hi
  rw [if_pos hc] at hi
  split at hi
  · have h1 : (i : Int) ≤ (j - 0 - 1) / c := by omega
    have h2 : (i : Int) * c ≤ (j - 0 - 1) / c * c := Int.mul_le_mul_of_nonneg_right h1 (by omega)
    have h3 : (j - 0 - 1) / c * c ≤ j - 0 - 1 := Int.ediv_mul_le _ (by omega)
    omega
  · simp at hi
theorem q_forR3 {ta : TA} {j : Nat} {n c : Int} (h : EvA ta σ H [.int 0, .int n, .int c]) (hn : 0 ≤ n ∧ n ≤ 100000) (hc : 0 < c ∧ c ≤ 1000) (Pv : Nat → L2.St → Hp → Prop) (h0 : ∀ H1, Ex H H1 → Pv 0 σ H1)
    (hs : ∀ (i : Nat) σ' H', (i : Int) * c < n → Pv i σ' H' → tu { D with nx := Pv (i + 1), ct := Pv (i + 1), bk := tz D } (σ'.set j (some (.int ((i : Int) * c)))) H') (hd : ∀ i σ' H', Pv i σ' H' → tz D σ' H') : tSeq (tFor (iRng3 ta) (gName j) tu) tz D σ H :=
  h H (Ex.refl _) _ fun H1 e1 => ⟨0, n, c, _, rfl, rgc_up hn.1 hn.2 hc.1 hc.2, for_rangeC (D := { D with nx := tz D }) Pv (h0 H1 e1) (fun i σ' H' hi hP => by
    have e : (0 : Int) + (i : Nat) * c = (i : Int) * c := Int.zero_add _
    show tu _ (σ'.set j (some (.int ((0 : Int) + (i : Nat) * c)))) H'
    rw [e]
    exact hs i σ' H' (rgc_lt hc.1 hi) hP) (fun σ' H' hP => hd _ σ' H' hP)⟩
/-- a call that ends a reading: its arguments evaluate, then its promise -/
theorem rd_call {sp : Sp} {vs : List V} {E : XK} {ta : TA} {Q : VK} (h : EvA ta σ H vs) (k : ∀ H1, Ex H H1 → sp (vs ++ []) H1 Q E) : tCall sp [] E ta σ H Q := h H (Ex.refl _) _ fun H1 e1 => k H1 e1
end
/-! ### what evaluates to data -/
mutual
theorem dp_mono {K : PySem.W.Frag} {H H' : Hp} (e : Ex H H') : ∀ {v : V} {d : PyData}, Dp K H v d → Dp K H' v d
  | _, _, .non => .non
  | _, _, .bl b => .bl b
  | _, _, .int i => .int i
  | _, _, .str x => .str x
  | _, _, .lst h r => .lst (ex_l e h) (dpA_mono e r)
  | _, _, .tup h r => .tup (ex_t e h) (dpA_mono e r)
theorem dpA_mono {K : PySem.W.Frag} {H H' : Hp} (e : Ex H H') : ∀ {vs : List V} {ds : List PyData}, DpAll K H vs ds → DpAll K H' vs ds
  | _, _, .nil => .nil
  | _, _, .cons h r => .cons (dp_mono e h) (dpA_mono e r)
end
def EvD (K : PySem.W.Frag) (te : TE) (σ : L2.St) (H : Hp) (d : PyData) : Prop := ∀ H1, Ex H H1 → ∀ Q : VK, (∀ v H2, Ex H1 H2 → Dp K H2 v d → Q v H2) → te σ H1 Q
def EvDA (K : PySem.W.Frag) (ta : TA) (σ : L2.St) (H : Hp) (ds : List PyData) : Prop := ∀ H1, Ex H H1 → ∀ Q : List V → Hp → Prop, (∀ vs H2, Ex H1 H2 → DpAll K H2 vs ds → Q vs H2) → ta σ H1 Q
/-- a list that is tracked -/
def EvDL (K : PySem.W.Frag) (te : TE) (σ : L2.St) (H : Hp) (ds : List PyData) : Prop := ∀ H1, Ex H H1 → ∀ Q : VK, (∀ p vs H2, Ex H1 H2 → H2 p = some (.lst vs) → DpAll K H2 vs ds → Q (.ref p) H2) → te σ H1 Q
section
variable {K : PySem.W.Frag} {σ : L2.St} {H H' : Hp} {ta tb te tx : TE} {t u : TT} {x y z v : V} {r : R2} {D : Ends} {tu tw tz : TS} {g : TG} {d e : PyData} {ds es : List PyData}
theorem dpA_len : ∀ {vs : List V} {ds : List PyData}, DpAll K H vs ds → vs.length = ds.length
  | _, _, .nil => rfl
  | _, _, .cons _ r => by rw [List.length_cons, List.length_cons, dpA_len r]
theorem dpA_app : ∀ {vs ws : List V} {ds es : List PyData}, DpAll K H vs ds → DpAll K H ws es → DpAll K H (vs ++ ws) (ds ++ es)
  | _, _, _, _, .nil, q => q
  | _, _, _, _, .cons h r, q => .cons h (dpA_app r q)
theorem ed_ev (h : Ev te σ H v) (hd : Dp K H v d) : EvD K te σ H d := fun H1 e Q q => h H1 e Q fun H2 e2 => q v H2 e2 (dp_mono (e.trans e2) hd)
theorem ed_int {i : Int} (h : Ev te σ H (.int i)) : EvD K te σ H (.int i) := ed_ev h (.int i)
theorem ed_L {ns : List Int} (h : EvL te σ H (ns.map V.int)) : EvD K te σ H (.list (ns.map .int)) := fun H1 e Q q => h H1 e Q fun p H2 n e2 a => q _ H2 e2 (dp_list (sq_of a))
theorem ed_U {ns : List Int} (h : EvU te σ H (ns.map V.int)) : EvD K te σ H (.tuple (ns.map .int)) := fun H1 e Q q => h H1 e Q fun p H2 n e2 a => q _ H2 e2 (.tup (st_of a) (dp_ints ns))
theorem eda_nil : EvDA K tNil σ H [] := fun H1 e Q q => q [] H1 (Ex.refl _) .nil
theorem eda_cons {tr : TA} (h : EvD K te σ H d) (hr : EvDA K tr σ H ds) : EvDA K (tCons te tr) σ H (d :: ds) := fun H1 e Q q =>
  h H1 e _ fun v H2 e2 hv => hr H2 (e.trans e2) _ fun vs H3 e3 hs => q (v :: vs) H3 (e2.trans e3) (.cons (dp_mono e3 hv) hs)
theorem edl_lst {ta : TA} (h : EvDA K ta σ H ds) (hl : ds.length ≤ 100000) : EvDL K (tLst ta) σ H ds := fun H1 e Q q =>
  h H1 e _ fun vs H2 e2 hs => ⟨sz_of (by rw [dpA_len hs]; exact hl), fun p hp => q p vs _ (e2.trans (Ex.new hp)) upd_same (dpA_mono (Ex.new hp) hs)⟩
theorem EvDL.ed (h : EvDL K te σ H ds) : EvD K te σ H (.list ds) := fun H1 e Q q => h H1 e Q fun p vs H2 e2 hp hs => q _ H2 e2 (.lst (sq_of hp) hs)
theorem ed_tup {ta : TA} (h : EvDA K ta σ H ds) (hl : ds.length ≤ 100000) : EvD K (tTup ta) σ H (.tuple ds) := fun H1 e Q q =>
  h H1 e _ fun vs H2 e2 hs => ⟨sz_of (by rw [dpA_len hs]; exact hl), fun p hp => q _ _ (e2.trans (Ex.new hp)) (.tup (st_of upd_same) (dpA_mono (Ex.new hp) hs))⟩
theorem edl_ev {p : Addr} {vs : List V} (h : Ev te σ H (.ref p)) (hp : H p = some (.lst vs)) (hs : DpAll K H vs ds) : EvDL K te σ H ds := fun H1 e Q q => h H1 e Q fun H2 e2 => q p vs H2 e2 ((e.trans e2) _ _ hp) (dpA_mono (e.trans e2) hs)
theorem edl_L {ns : List Int} (h : EvL te σ H (ns.map V.int)) : EvDL K te σ H (ns.map .int) := fun H1 e Q q => h H1 e Q fun p H2 n e2 a => q p _ H2 e2 a (dp_ints ns)
theorem edl_cat (ha : EvDL K ta σ H ds) (hb : EvDL K tb σ H es) (hl : ds.length + es.length ≤ 100000) : EvDL K (tOp rCat ta tb) σ H (ds ++ es) := fun H1 e Q q =>
  ha H1 e _ fun p vs H2 e2 hp hs => hb H2 (e.trans e2) _ fun p2 ws H3 e3 hp2 hs2 => ⟨p, p2, vs, ws, rfl, rfl, e3 _ _ hp, hp2, sz_of (by rw [dpA_len hs, dpA_len hs2]; exact hl), fun p3 n3 => q p3 (vs ++ ws) _ (e2.trans (e3.trans (Ex.new n3))) upd_same (dpA_mono (Ex.new n3) (dpA_app (dpA_mono e3 hs) hs2))⟩
theorem ev_neD (ha : EvD K ta σ H d) (hb : EvD K tb σ H e) (h1 : SeqAt.shaped d = true) (h2 : SeqAt.shaped e = true) : Ev (tOp (rNeD K) ta tb) σ H (.bl (!PyData.eqv d e)) := fun H1 e1 Q q =>
  ha H1 e1 _ fun v H2 e2 hv => hb H2 (e1.trans e2) _ fun w H3 e3 hw => ⟨d, e, dp_mono e3 hv, hw, h1, h2, q H3 (e2.trans e3)⟩
theorem ev_eqD (ha : EvD K ta σ H d) (hb : EvD K tb σ H e) (h1 : SeqAt.shaped d = true) (h2 : SeqAt.shaped e = true) : Ev (tOp (rEqD K) ta tb) σ H (.bl (PyData.eqv d e)) := fun H1 e1 Q q =>
  ha H1 e1 _ fun v H2 e2 hv => hb H2 (e1.trans e2) _ fun w H3 e3 hw => ⟨d, e, dp_mono e3 hv, hw, h1, h2, q H3 (e2.trans e3)⟩
/-- a call that is handed a new list of ints alone -/
theorem el_callN {sp : Sp} {E : XK} {ns xs : List Int} (h : EvL te σ H (ns.map V.int)) (hs : ∀ p H1, Ex H H1 → H1 p = some (.lst (ns.map V.int)) → SpL sp [.ref p] H1 (xs.map V.int)) : EvL (tCall sp [] E (tCons te tNil)) σ H (xs.map V.int) := fun H1 e Q q =>
  h H1 e _ fun p H2 n e2 a => hs p H2 (e.trans e2) a H2 (Ex.refl _) Q (fun p3 H3 n3 e3 a3 => q p3 H3 (fresh_back e2 n3) (e2.trans e3) a3) E
theorem ev_callN {sp : Sp} {E : XK} {ns : List Int} (h : EvL te σ H (ns.map V.int)) (hs : ∀ p H1, Ex H H1 → H1 p = some (.lst (ns.map V.int)) → SpV sp [.ref p] H1 z) : Ev (tCall sp [] E (tCons te tNil)) σ H z := fun H1 e Q q =>
  h H1 e _ fun p H2 n e2 a => hs p H2 (e.trans e2) a H2 (Ex.refl _) Q (fun H3 e3 => q H3 (e2.trans e3)) E
end
section
variable {X : Cx} {o e f : Expr} {td ty tx : TE} {apos cpos : Pos}
theorem pe_dg2 (hu : X.A.units + 1 < cLine) (ho : PE X o td) (he : PE X e ty) (hf : PE X f tx) (m : M2 X o "get" apos e f cpos := by exact ⟨rfl, rfl, rfl, rfl⟩) : PE X (.Call (.Attribute o "get" apos) [e, f] [] cpos) (tDGet2 td ty tx) := pe_dget2 hu ho he hf m
theorem pe_dsd (ho : PE X o td) (he : PE X e ty) (hf : PE X f tx) (m : M2 X o "setdefault" apos e f cpos := by exact ⟨rfl, rfl, rfl, rfl⟩) : PE X (.Call (.Attribute o "setdefault" apos) [e, f] [] cpos) (tDSetd td ty tx) := pe_dsetd ho he hf m
end
/-! ### classes -/
structure ClsT (K : PySem.W.Frag) (C : Addr) : Prop where
  cl : Cls K C
  ha : PySem.W.findIn K (.ref C) "__class__" = some (some (.builtin "object.__class__"))
  hn : PySem.W.specialIn K (.builtin "object.__class__") "__get__" = some (some (.builtin "getset_descriptor.__get__"))
  htk : PySem.W.takesIn K (.builtin "object.__class__") = some true
  hm : PySem.W.mroIn K C (.type "object") = some true
theorem ClsT.ty {K : PySem.W.Frag} {C : Addr} (T : ClsT K C) {H : Hp} {a dx : Addr} {fs : List (Str × V)} (e : H a = some (.ins C dx fs)) : TyX K H (.ref a) (.ref C) := .base (.ins e T.cl T.ha T.hn T.htk T.hm)
theorem kit_own {K : PySem.W.Frag} {A B : Addr} {r : Bool} (c : PySem.W.isClsIn K B = true) (ty : PySem.W.typeIn K (.ref B) = some (.type "type")) (s : PySem.W.subIn K (.ref A) (.ref B) = some r) (s2 : PySem.W.subIn K (.ref B) (.ref B) = some true) : PySem.W.kitOne K (.ref A) (.ref B) = some r := by
  unfold PySem.W.kitOne
  by_cases e : A = B
  · subst e
    rw [if_pos (by simp)]
    exact s2.symm.trans s
  · rw [if_neg (by simpa using e)]
    unfold PySem.W.kitCls
    have c' : (PySem.W.clsIn K B).isSome = true := by unfold PySem.W.isClsIn at c; exact c
    simp only [c', ty, Bool.true_and, beq_self_eq_true, if_true]
    exact s
/-- a class that is made by its own __init__ -/
structure Mkd (P : Program) (w : World) (K : PySem.W.Frag) (mg : Str → Option Value) (base : Heap) (CX : CXT) (k : Nat) (x : Str) (C : Addr) (ps : List Str) (sp : Sp) : Prop where
  ex : ∃ (f : Addr) (fd : FuncData), FnOk P w K mg base CX k f fd ps sp ∧ Mk K C f ∧ mg x = some (.ref C) ∧ Binds K fd ps []
/-- a method -/
structure Mtd (P : Program) (w : World) (K : PySem.W.Frag) (mg : Str → Option Value) (base : Heap) (CX : CXT) (k : Nat) (m : Str) (C : Addr) (ps : List Str) (sp : Sp) : Prop where
  ex : ∃ (f : Addr) (fd : FuncData), FnOk P w K mg base CX k f fd ps sp ∧ Meth K C m f ∧ Binds K fd ps [] ∧ Cls K C
structure PlM (K : PySem.W.Frag) (C : Addr) (m qual : Str) (st : Stmt) (ps : List Str) : Prop where
  ex : ∃ (f : Addr) (fd : FuncData), Fun K m qual st f fd ∧ PySem.W.findIn K (.ref C) m = some (some (.ref f)) ∧ PySem.W.isFn K (.ref f) = true ∧ Binds K fd ps []
section
variable {P : Program} {w : World} {K : PySem.W.Frag} {mg : Str → Option Value} {base : Heap}
theorem PlM.okM {m qual : Str} {C : Addr} {st : Stmt} {N ps : List Str} {k : Nat} {sp : Sp} (p : PlM K C m qual st ps) (cl : Cls K C) (S : FnScope N ps (defScope st)) (len : ∀ vs H Q E, sp vs H Q E → vs.length = ps.length)
    (hbody : ∀ (f : Addr) (cdv : Value) (A : Around) (outer : List Env) (s : Shared) (H : Hp) (vs : List V) (Q : VK) (E : XK), Room k (A.deeper (envOfC qual (defScope st) s.heap.objs.size f cdv)) → sp vs H Q E →
      ∃ t, PSs (cxOf CX0 P w K mg base N qual (defScope st) f cdv A outer s H E).nox (defBody st) t ∧ t { nx := fun _ H' => Q .non H', rt := Q } (start N vs) H) : Mtd P w K mg base CX0 (k + 1) m C ps sp := by
  obtain ⟨f, fd, F, hm, hi, hb⟩ := p.ex
  exact ⟨f, fd, F.ok S len fun cdv A outer s H vs Q E hr h => hbody f cdv A outer s H vs Q E hr h, ⟨hm, hi, F.kp⟩, hb, cl⟩
theorem PlM.okI {x qual : Str} {C : Addr} {st : Stmt} {N ps : List Str} {k : Nat} {sp : Sp} (p : PlM K C "__init__" qual st ps) (hmk : PySem.W.makesIn K C = true) (hkc : PySem.W.keepIn K (.ref C) = true) (hg : mg x = some (.ref C)) (S : FnScope N ps (defScope st)) (len : ∀ vs H Q E, sp vs H Q E → vs.length = ps.length)
    (hbody : ∀ (f : Addr) (cdv : Value) (A : Around) (outer : List Env) (s : Shared) (H : Hp) (vs : List V) (Q : VK) (E : XK), Room k (A.deeper (envOfC qual (defScope st) s.heap.objs.size f cdv)) → sp vs H Q E →
      ∃ t, PSs (cxOf CX0 P w K mg base N qual (defScope st) f cdv A outer s H E).nox (defBody st) t ∧ t { nx := fun _ H' => Q .non H', rt := Q } (start N vs) H) : Mkd P w K mg base CX0 (k + 1) x C ps sp := by
  obtain ⟨f, fd, F, hm, hi, hb⟩ := p.ex
  exact ⟨f, fd, F.ok S len fun cdv A outer s H vs Q E hr h => hbody f cdv A outer s H vs Q E hr h, ⟨hmk, hm, hi, hkc⟩, hg, hb⟩
theorem plm_mk {C : Addr} {m qual : Str} {st : Stmt} {ps : List Str} {f : Addr} {oc : Value} {od an : Option Addr} {osl : Array (Option Value)} {kV doc pm cdv ct : Value}
    (a : PySem.W.findIn K (.ref C) m = some (some (.ref f))) (i : PySem.W.isFn K (.ref f) = true)
    (l : K.lookup f = some ⟨oc, od, .func (PySem.W.fnOf m qual (defArgs st) (defBody st) (defScope st) .none kV doc pm an cdv ct), osl⟩)
    (c : PySem.W.codeIn K cdv qual = true) (k : PySem.W.keepIn K (.ref f) = true)
    (hb : ∀ (kV doc pm : Value) (an : Option Addr) (cdv ct : Value) (us : List Value), us.length = ps.length → bindArgs (PySem.W.fnOf m qual (defArgs st) (defBody st) (defScope st) .none kV doc pm an cdv ct) ⟨us, []⟩ = pure (ps.zip us)) : PlM K C m qual st ps :=
  ⟨f, _, fun_mk l c k, a, i, (fun_mk l c k).binds hb⟩
end
def tEi (t1 t2 : TE) : TE := fun σ H Q => t1 σ H Q ∨ t2 σ H Q
theorem ev_eiL {t1 t2 : TE} {σ : L2.St} {H : Hp} {v : V} (h : Ev t1 σ H v) : Ev (tEi t1 t2) σ H v := fun H1 e Q q => .inl (h H1 e Q q)
theorem ev_eiR {t1 t2 : TE} {σ : L2.St} {H : Hp} {v : V} (h : Ev t2 σ H v) : Ev (tEi t1 t2) σ H v := fun H1 e Q q => .inr (h H1 e Q q)
theorem u65 {k : Nat} {A : Around} (r : Room k A) : A.units + 65 < cLine := by have := r.un; omega
section
variable {X : Cx} {CX : CXT} {j k : Nat} {C : Addr} {x m : Str} {ps : List Str} {sp : Sp} {E : XK} {p pos apos : Pos} {o e : Expr} {es : List Expr} {t : TA} {ta : TE}
theorem pe_mk (d : Mkd X.prog X.w X.K X.mg X.base CX j x C ps sp) (hj : j + 1 ≤ k) (hr : Room k X.A) (hg : Gl X x) (hx : Passes CX X E) (ha : PA X (e :: es) t)
    (hdb : (x == ("__debug__" : Str)) = false := by decide) (he : starEach (e :: es) X.env = (false, eval e X.env) :: starEach es X.env := by rfl) (hpl : (backTo pos (starEach es X.env)).any (·.1) = false := by rfl) :
    PE X (.Call (.Name x p) (e :: es) [] pos) (tMake C sp [] E t) := by
  obtain ⟨f, fd, F, M, hm, hb⟩ := d.ex
  exact pe_make M F (hr.mono hj) hg hm hb .nil hx ha hdb he hpl
theorem pe_mth {pl : Sem Bool} (d : Mtd X.prog X.w X.K X.mg X.base CX j m C ps sp) (hj : j ≤ k) (hr : Room k X.A) (hx : Passes CX X E) (ho : PE X o ta) (ha : PA X (e :: es) t)
    (hst : starEach (e :: es) X.env = (false, eval e X.env) :: starEach es X.env := by rfl) (hpl : (backTo pos (starEach es X.env)).any (·.1) = false := by rfl)
    (ht : eval (.Call (.Attribute o m apos) (e :: es) [] pos) X.env = (do
      let ov ← eval o X.env
      standAt apos.atName
      let (f, first) ← holding [ov] (getMethod ov m pl)
      callWith pos f first (backTo pos (starEach (e :: es) X.env)) (backToKw pos (keywordEach [] X.env))) := by rfl) :
    PE X (.Call (.Attribute o m apos) (e :: es) [] pos) (tMeth C m sp [] E ta t) := by
  obtain ⟨f, fd, F, M, hb, cl⟩ := d.ex
  exact pe_meth ho cl M F (hr.mono hj) hb .nil hx ha hst hpl ht
/-- one of two readings -/
theorem pe_either {e : Expr} {t1 t2 : TE} (h1 : PE X e t1) (h2 : PE X e t2) : PE X e (tEi t1 t2) :=
  ⟨fun pins s σ H Q I h => h.elim (h1.run pins s σ H Q I) (h2.run pins s σ H Q I)⟩
end
/-- Answer, Comes, Never -/
structure Ts (K : PySem.W.Frag) (mg : Str → Option Value) (CA CC CN : Addr) : Prop where
  tC : ClsT K CC
  tN : ClsT K CN
  nS : NoAttr K CC "signs"
  nP : NoAttr K CN "place"
  g_Answer : mg "Answer" = some (.ref CA)
  g_Comes : mg "Comes" = some (.ref CC)
  g_Never : mg "Never" = some (.ref CN)
  kCC : PySem.W.kitOne K (.ref CC) (.ref CC) = some true
  kCN : PySem.W.kitOne K (.ref CC) (.ref CN) = some false
  kCA : PySem.W.kitOne K (.ref CC) (.ref CA) = some true
  kNC : PySem.W.kitOne K (.ref CN) (.ref CC) = some false
  kNN : PySem.W.kitOne K (.ref CN) (.ref CN) = some true
  kNA : PySem.W.kitOne K (.ref CN) (.ref CA) = some true
  mkC : PySem.W.makesIn K CC = true
  kpC : PySem.W.keepIn K (.ref CC) = true
  mkN : PySem.W.makesIn K CN = true
  kpN : PySem.W.keepIn K (.ref CN) = true
/-- an answer with signs; one with a place -/
def IsComes (CC : Addr) (H : Hp) (x p : Addr) (ns : List Int) : Prop := (∃ dx, H x = some (.ins CC dx [("signs", .ref p)])) ∧ H p = some (.lst (ns.map V.int))
def IsNever (CN : Addr) (H : Hp) (x : Addr) (i : Int) : Prop := ∃ dx, H x = some (.ins CN dx [("place", .int i)])
theorem IsComes.mono {CC : Addr} {H H' : Hp} {x p : Addr} {ns : List Int} (e : Ex H H') (h : IsComes CC H x p ns) : IsComes CC H' x p ns := by
  obtain ⟨⟨dx, h1⟩, h2⟩ := h
  exact ⟨⟨dx, e _ _ h1⟩, e _ _ h2⟩
theorem IsNever.mono {CN : Addr} {H H' : Hp} {x : Addr} {i : Int} (e : Ex H H') (h : IsNever CN H x i) : IsNever CN H' x i := by
  obtain ⟨dx, h1⟩ := h
  exact ⟨dx, e _ _ h1⟩
def EvComes (CC : Addr) (te : TE) (σ : L2.St) (H : Hp) (ns : List Int) : Prop := ∀ H1, Ex H H1 → ∀ Q : VK, (∀ x p H2, H1 x = none → H1 p = none → Ex H1 H2 → IsComes CC H2 x p ns → Q (.ref x) H2) → te σ H1 Q
def EvNever (CN : Addr) (te : TE) (σ : L2.St) (H : Hp) (i : Int) : Prop := ∀ H1, Ex H H1 → ∀ Q : VK, (∀ x H2, H1 x = none → Ex H1 H2 → IsNever CN H2 x i → Q (.ref x) H2) → te σ H1 Q
section
variable {K : PySem.W.Frag} {mg : Str → Option Value} {CA CC CN C C' : Addr} {σ : L2.St} {H H' : Hp} {ta tb te tx : TE} {t u : TT} {x y z v : V} {r : R2} {D : Ends} {tu tw tz : TS} {g : TG}
theorem ev_isiC {ta : TA} {a dx : Addr} {fs : List (Str × V)} {b : Bool} (h : EvA ta σ H [.ref a, .ref C']) (T : ClsT K C) (e : H a = some (.ins C dx fs)) (kb : PySem.W.kitOne K (.ref C) (.ref C') = some b) : Ev (tCB (rIsi K) ta) σ H (.bl b) :=
  ev_cb h fun H1 e1 Q q => ⟨.ref a, .ref C', .ref C, .ref C', b, rfl, .own C', T.ty (e1 _ _ e), kb, q H1 (Ex.refl _)⟩
theorem ev_isiCM (T : Ts K mg CA CC CN) {b : Bool} {ns : List Int} (h : EvComes CC te σ H ns) (h2 : Ev tb σ H (.ref C')) (kb : PySem.W.kitOne K (.ref CC) (.ref C') = some b) : Ev (tCB (rIsi K) (tCons te (tCons tb tNil))) σ H (.bl b) := fun H1 e Q q =>
  h H1 e _ fun x p H2 _ _ e2 hc => h2 H2 (e.trans e2) _ fun H3 e3 => by
    obtain ⟨⟨dx, g1⟩, _⟩ := hc
    exact ⟨.ref x, .ref C', .ref CC, .ref C', b, rfl, .own C', T.tC.ty (e3 _ _ g1), kb, q H3 (e2.trans e3)⟩
theorem ev_isiNM (T : Ts K mg CA CC CN) {b : Bool} {i : Int} (h : EvNever CN te σ H i) (h2 : Ev tb σ H (.ref C')) (kb : PySem.W.kitOne K (.ref CN) (.ref C') = some b) : Ev (tCB (rIsi K) (tCons te (tCons tb tNil))) σ H (.bl b) := fun H1 e Q q =>
  h H1 e _ fun x H2 _ e2 hc => h2 H2 (e.trans e2) _ fun H3 e3 => by
    obtain ⟨dx, g1⟩ := hc
    exact ⟨.ref x, .ref C', .ref CN, .ref C', b, rfl, .own C', T.tN.ty (e3 _ _ g1), kb, q H3 (e2.trans e3)⟩
theorem ev_fldS (T : Ts K mg CA CC CN) {a p : Addr} {ns : List Int} (h : Ev te σ H (.ref a)) (hc : IsComes CC H a p ns) : Ev (tFld K te "signs") σ H (.ref p) := fun H1 e Q q =>
  h H1 e _ fun H2 e2 => by
    obtain ⟨⟨dx, h1⟩, h2⟩ := hc
    exact ⟨a, CC, dx, _, _, rfl, (e.trans e2) _ _ h1, T.tC.cl, T.nS, rfl, q H2 e2⟩
theorem ev_fldP (T : Ts K mg CA CC CN) {a : Addr} {i : Int} (h : Ev te σ H (.ref a)) (hc : IsNever CN H a i) : Ev (tFld K te "place") σ H (.int i) := fun H1 e Q q =>
  h H1 e _ fun H2 e2 => by
    obtain ⟨dx, h1⟩ := hc
    exact ⟨a, CN, dx, _, _, rfl, (e.trans e2) _ _ h1, T.tN.cl, T.nP, rfl, q H2 e2⟩
end
/-! ### len(set(xs)) -/
theorem dedup_firsts : ∀ (row acc : List Int), row.foldl step_dedup acc = firsts acc row
  | [], _ => rfl
  | a :: r, acc => by
    show r.foldl step_dedup (step_dedup acc a) = firsts (if a ∈ acc then acc else acc ++ [a]) r
    rw [dedup_firsts r]
    congr 1
    unfold step_dedup
    by_cases h : a ∈ acc
    · rw [if_pos h, if_pos (by simpa using h)]
    · rw [if_neg h, if_neg (by simpa using h)]
theorem firstMet_firsts (ns : List Int) : PyProof.Rows.firstMet (fun i => ns.getD i 0) ns.length = firsts [] ns := by
  unfold PyProof.Rows.firstMet
  rw [map_getD (fun s => s) ns, List.map_id']
  exact dedup_firsts ns []
def tLenSetD (K : PySem.W.Frag) (ta : TE) : TE := fun σ H Q => ta σ H fun x H1 => ∃ (l : Addr) (ns : List Int), x = .ref l ∧ SqL K H1 l (ns.map V.int) ∧ ns.length ≤ 4000 ∧ Q (.int (knownF ns : Int)) H1
theorem pe_lenSetD {X : Cx} {a : Expr} {ta : TE} {p p2 q pos : Pos} (hc : X.calm = true) (hg : Gl X "len") (hm : X.mg "len" = none) (hg2 : Gl X "set") (hm2 : X.mg "set" = none) (ha : PE X a ta)
    (na : starEach [a] X.env = (false, eval a X.env) :: starEach [] X.env := by rfl) : PE X (.Call (.Name "len" p) [.Call (.Name "set" p2) [a] [] q] [] pos) (tLenSetD X.K ta) := by
  refine ⟨fun pins s σ H Q I h => ?_⟩
  refine Call_ (ld_blt I hg hm boot_len ?_)
  refine PyProof.Rows.callWith_builtin1 (PyProof.Rows.args_cons ?_ rfl) rfl rfl
  refine Call_ (ld_blt I hg2 hm2 boot_set ?_)
  refine PyProof.Rows.callWith_type1 (PyProof.Rows.args_cons (thn (ha.run pins s σ H _ I h) fun v s1 ⟨x, H1, I1, r1, q1⟩ => PyProof.Rows.args_nil ?_) na) na rfl
  obtain ⟨l, ns, rfl, hq, hl, q1⟩ := q1
  cases r1
  obtain ⟨its, r, pl, hz⟩ := I1.list hq
  have hlen : its.toArray.size = ns.length := by rw [List.size_toArray, ← r.length, List.length_map]
  refine call_set_list (I1.ok.hd hc) pl.isList (by simpa using RZ.intsAre_vals r) (by rw [hlen]; unfold scanBound; omega) fun h' tk hS hk => ?_
  refine PyProof.Rows.args_nil ?_
  rw [hlen, firstMet_firsts] at hS
  obtain ⟨o, es, ep, t, ho, hex, hd, _, _, _, hf, hn⟩ := hS
  have I2 : Inv X pins σ H1 { s1 with heap := h', toks := tk } := I1.kept fun b o e => hk b o (Heap.lt_size e) e
  have hfl := firsts_len [] ns
  have hk2 : (firsts [] ns).length ≤ 4000 := by simp at hfl; omega
  exact call_len_set ho hex hd hf (by rw [hn] <;> omega) ⟨.int (knownF ns : Int), H1, I2.tok _, ⟨_, by rw [hn]; rfl⟩, q1⟩
section
variable {K : PySem.W.Frag} {mg : Str → Option Value} {CA CC CN C C' : Addr} {σ : L2.St} {H H' : Hp} {ta tb tc te tx tl : TE} {t u : TT} {x y z v : V} {r : R2} {D : Ends} {tu tw tz : TS} {g : TG} {xs ys : List V} {ds : List PyData}
theorem ev_lenSet {a : Addr} {ns : List Int} (ha : Ev ta σ H (.ref a)) (h : SqL K H a (ns.map V.int)) (hl : ns.length ≤ 4000) : Ev (tLenSetD K ta) σ H (.int (knownF ns : Int)) := fun H1 e Q q =>
  ha H1 e _ fun H2 e2 => ⟨a, ns, rfl, ex_l (e.trans e2) h, hl, q H2 e2⟩
theorem el_if {b : Bool} (h : EvT t σ H b) (h1 : b = true → EvL ta σ H xs) (h2 : b = false → EvL tb σ H xs) : EvL (tIf t ta tb) σ H xs := fun H1 e Q q => h H1 e _ fun H2 e2 => by
  cases b with
  | true => exact iteT (h1 rfl H2 (e.trans e2) Q fun p H3 n e3 a => q p H3 (fresh_back e2 n) (e2.trans e3) a)
  | false => exact iteF (h2 rfl H2 (e.trans e2) Q fun p H3 n e3 a => q p H3 (fresh_back e2 n) (e2.trans e3) a)
theorem el_cat (ha : EvL ta σ H xs) (hb : EvL tb σ H ys) (hl : xs.length + ys.length ≤ 100000) : EvL (tOp rCat ta tb) σ H (xs ++ ys) := fun H1 e Q q =>
  ha H1 e _ fun p H2 n e2 a => hb H2 (e.trans e2) _ fun p2 H3 n3 e3 a3 => ⟨p, p2, xs, ys, rfl, rfl, e3 _ _ a, a3, sz_of hl, fun p4 n4 => q p4 _ (fresh_back (e2.trans e3) n4) ((e2.trans e3).trans (Ex.new n4)) upd_same⟩
theorem el_catV {a : Addr} (ha : Ev ta σ H (.ref a)) (h : H a = some (.lst xs)) (hb : EvL tb σ H ys) (hl : xs.length + ys.length ≤ 100000) : EvL (tOp rCat ta tb) σ H (xs ++ ys) := fun H1 e Q q =>
  ha H1 e _ fun H2 e2 => hb H2 (e.trans e2) _ fun p2 H3 n3 e3 a3 => ⟨a, p2, xs, ys, rfl, rfl, (e.trans (e2.trans e3)) _ _ h, a3, sz_of hl, fun p4 n4 => q p4 _ (fresh_back (e2.trans e3) n4) ((e2.trans e3).trans (Ex.new n4)) upd_same⟩
theorem el_catVV {a b : Addr} (ha : Ev ta σ H (.ref a)) (h : H a = some (.lst xs)) (hb : Ev tb σ H (.ref b)) (h2 : H b = some (.lst ys)) (hl : xs.length + ys.length ≤ 100000) : EvL (tOp rCat ta tb) σ H (xs ++ ys) := fun H1 e Q q =>
  ha H1 e _ fun H2 e2 => hb H2 (e.trans e2) _ fun H3 e3 => ⟨a, b, xs, ys, rfl, rfl, (e.trans (e2.trans e3)) _ _ h, (e.trans (e2.trans e3)) _ _ h2, sz_of hl, fun p4 n4 => q p4 _ (fresh_back (e2.trans e3) n4) ((e2.trans e3).trans (Ex.new n4)) upd_same⟩
/-- [..] * k -/
theorem el_rep {k : Int} (ha : EvL ta σ H xs) (hb : Ev tb σ H (.int k)) (h0 : 0 ≤ k) (hl : k ≤ 1000) (hx : xs.length ≤ 50) : EvL (tOp rRep ta tb) σ H (List.replicate k.toNat xs).flatten := fun H1 e Q q =>
  ha H1 e _ fun p H2 n e2 a => hb H2 (e.trans e2) _ fun H3 e3 => ⟨p, k, xs, rfl, rfl, e3 _ _ a, by omega, by omega, sz_of (Nat.le_trans (Nat.mul_le_mul hx (show k.toNat ≤ 1000 by omega)) (by decide)), fun p4 n4 => q p4 _ (fresh_back (e2.trans e3) n4) ((e2.trans e3).trans (Ex.new n4)) upd_same⟩
theorem rep1 (n : Nat) (x : V) : (List.replicate n [x]).flatten = List.replicate n x := by
  induction n with
  | zero => rfl
  | succ n ih => rw [List.replicate_succ, List.flatten_cons, ih, List.replicate_succ]; rfl
/-- xs[::-1] -/
theorem el_rev {a : Addr} (ha : Ev ta σ H (.ref a)) (h : SqL K H a xs) : EvL (tRevL K ta) σ H xs.reverse := fun H1 e Q q =>
  ha H1 e _ fun H2 e2 => ⟨a, xs, rfl, ex_l (e.trans e2) h, fun p n => q p _ (fresh_back e2 n) (e2.trans (Ex.new n)) upd_same⟩
/-- a op b op c, ints -/
theorem ev_chain {f g : Int → Int → Bool} {i j k : Int} (ha : Ev ta σ H (.int i)) (hb : Ev tb σ H (.int j)) (hc : f i j = true → Ev tc σ H (.int k)) : Ev (tChain (rI0 fun i j => .bl (f i j)) (rI0 fun i j => .bl (g i j)) ta tb tc) σ H (.bl (f i j && g j k)) := fun H1 e Q q =>
  ha H1 e _ fun H2 e2 => hb H2 (e.trans e2) _ fun H3 e3 => ⟨i, j, rfl, rfl, f i j, rfl, by
    cases h : f i j with
    | true => exact iteT (hc h H3 (e.trans (e2.trans e3)) _ fun H4 e4 => ⟨j, k, rfl, rfl, by rw [h] at q; exact q H4 (e2.trans (e3.trans e4))⟩)
    | false => exact iteF (by rw [h] at q; exact q H3 (e2.trans e3))⟩
theorem rv_isB {a b : Bool} : RV rIsB (.bl a) (.bl b) H (.bl (decide (a = b))) := fun H1 e Q q => ⟨a, b, rfl, rfl, q H1 (Ex.refl _)⟩
theorem rv_notB {a b : Bool} : RV rNotB (.bl a) (.bl b) H (.bl (!decide (a = b))) := fun H1 e Q q => ⟨a, b, rfl, rfl, q H1 (Ex.refl _)⟩
/-! ### loops over enumerate, over tuples made on the way -/
theorem s_forE {a : Addr} {j1 j2 : Nat} (h : Ev tl σ H (.ref a)) (hx : SqL K H a xs) (Pv : Nat → L2.St → Hp → Prop) (h0 : ∀ H1, Ex H H1 → Pv 0 σ H1) (hl : ∀ i σ' H', i ≤ xs.length → Pv i σ' H' → SqL K H' a xs)
    (hs : ∀ i x σ' H' T, xs[i]? = some x → Pv i σ' H' → H' T = none → tu { D with nx := Pv (i + 1), ct := Pv (i + 1), bk := D.nx } ((σ'.set j1 (some (.int (i : Int)))).set j2 (some x)) (upd H' T (.tup [.int (i : Int), x])))
    (hd : ∀ σ' H', Pv xs.length σ' H' → D.nx σ' H') : tFor (iEnum K (tCons tl tNil)) (gTup K 2 (gCons (gName j1) (gCons (gName j2) gNil))) tu D σ H :=
  h H (Ex.refl _) _ fun H1 e1 => ⟨a, xs, rfl, ex_l e1 hx, fun i m σ' H' => i + m = xs.length ∧ Pv i σ' H', ⟨xs.length, by omega, h0 H1 e1⟩, fun i m σ' H' hW => by
    obtain ⟨em, hP⟩ := hW
    have hA := hl i σ' H' (by omega) hP
    by_cases hi : i < xs.length
    · refine .inr ⟨⟨xs, xs[i], hA, List.getElem?_eq_getElem hi⟩, Pv (i + 1), fun σ2 H2 hp => ⟨m - 1, by omega, by omega, hp⟩, fun x H2 hy => ?_⟩
      obtain ⟨T, x1, rfl, nT, rfl, f⟩ := hy
      exact ⟨T, [.int (i : Int), x1], rfl, st_of upd_same, rfl, _, _, rfl, _, _, rfl, rfl, hs i x1 σ' H' T (f xs hA) hP nT⟩
    · have ei : i = xs.length := by omega
      subst ei
      exact .inl ⟨⟨xs, hA, Nat.le_refl _⟩, hd σ' H' hP⟩⟩
theorem q_forE {a : Addr} {j1 j2 : Nat} (h : Ev tl σ H (.ref a)) (hx : SqL K H a xs) (Pv : Nat → L2.St → Hp → Prop) (h0 : ∀ H1, Ex H H1 → Pv 0 σ H1) (hl : ∀ i σ' H', i ≤ xs.length → Pv i σ' H' → SqL K H' a xs)
    (hs : ∀ i x σ' H' T, xs[i]? = some x → Pv i σ' H' → H' T = none → tu { D with nx := Pv (i + 1), ct := Pv (i + 1), bk := tz D } ((σ'.set j1 (some (.int (i : Int)))).set j2 (some x)) (upd H' T (.tup [.int (i : Int), x])))
    (hd : ∀ σ' H', Pv xs.length σ' H' → tz D σ' H') : tSeq (tFor (iEnum K (tCons tl tNil)) (gTup K 2 (gCons (gName j1) (gCons (gName j2) gNil))) tu) tz D σ H := s_forE (D := { D with nx := tz D }) h hx Pv h0 hl hs hd
/-- B: the heap behind the tuple's making -/
theorem s_forNU (h : EvU tl σ H xs) (Pv : Hp → Nat → L2.St → Hp → Prop) (h0 : ∀ B, Ex H B → Pv B 0 σ B) (hE : ∀ B i σ' H', Pv B i σ' H' → Ex B H')
    (hs : ∀ B i x σ' H', Ex H B → xs[i]? = some x → Pv B i σ' H' → g x σ' H' fun σ2 H2 => tu { D with nx := Pv B (i + 1), ct := Pv B (i + 1), bk := D.nx } σ2 H2) (hd : ∀ B σ' H', Ex H B → Pv B xs.length σ' H' → D.nx σ' H') : tFor (iTup K tl) g tu D σ H :=
  h H (Ex.refl _) _ fun p B np e hp => ⟨p, rfl, ⟨xs, st_of hp⟩, for_tup (Pv B) (h0 B e) (fun i σ' H' _ hP => st_of (hE B i σ' H' hP _ _ hp)) (fun i x σ' H' hi hP => hs B i x σ' H' e hi hP) (fun σ' H' hP => hd B σ' H' e hP)⟩
theorem dpA_at {vs : List V} {ds : List PyData} (h : DpAll K H vs ds) : ∀ {i : Nat} {x : V}, vs[i]? = some x → ∃ d, ds[i]? = some d ∧ Dp K H x d := by
  induction ds generalizing vs with
  | nil => cases h; intro i x hx; simp at hx
  | cons d r ih =>
    cases h with
    | cons h1 h2 =>
      intro i x hx
      cases i with
      | zero => simp at hx; subst hx; exact ⟨d, rfl, h1⟩
      | succ i => exact ih h2 (by simpa using hx)
/-- over a tuple of data -/
theorem s_forDU {ta : TA} (h : EvDA K ta σ H ds) (hz : ds.length ≤ 100000) (Pv : Hp → Nat → L2.St → Hp → Prop) (h0 : ∀ B, Ex H B → Pv B 0 σ B) (hE : ∀ B i σ' H', Pv B i σ' H' → Ex B H')
    (hs : ∀ B i x d σ' H', Ex H B → ds[i]? = some d → Dp K B x d → Pv B i σ' H' → g x σ' H' fun σ2 H2 => tu { D with nx := Pv B (i + 1), ct := Pv B (i + 1), bk := D.nx } σ2 H2) (hd : ∀ B σ' H', Ex H B → Pv B ds.length σ' H' → D.nx σ' H') : tFor (iTup K (tTup ta)) g tu D σ H :=
  h H (Ex.refl _) _ fun vs H2 e2 hv => ⟨sz_of (by rw [dpA_len hv]; exact hz), fun p np => ⟨p, rfl, ⟨vs, st_of upd_same⟩, for_tup (xs := vs) (Pv (upd H2 p (.tup vs))) (h0 _ (e2.trans (Ex.new np))) (fun i σ' H' _ hP => st_of (hE _ i σ' H' hP _ _ upd_same))
    (fun i x σ' H' hi hP => by
      obtain ⟨d, hd1, hd2⟩ := dpA_at hv hi
      exact hs _ i x d σ' H' (e2.trans (Ex.new np)) hd1 (dp_mono (Ex.new np) hd2) hP) (fun σ' H' hP => hd _ σ' H' (e2.trans (Ex.new np)) (by rw [← dpA_len hv]; exact hP))⟩⟩
theorem q_forDU {ta : TA} (h : EvDA K ta σ H ds) (hz : ds.length ≤ 100000) (Pv : Hp → Nat → L2.St → Hp → Prop) (h0 : ∀ B, Ex H B → Pv B 0 σ B) (hE : ∀ B i σ' H', Pv B i σ' H' → Ex B H')
    (hs : ∀ B i x d σ' H', Ex H B → ds[i]? = some d → Dp K B x d → Pv B i σ' H' → g x σ' H' fun σ2 H2 => tu { D with nx := Pv B (i + 1), ct := Pv B (i + 1), bk := tz D } σ2 H2) (hd : ∀ B σ' H', Ex H B → Pv B ds.length σ' H' → tz D σ' H') : tSeq (tFor (iTup K (tTup ta)) g tu) tz D σ H :=
  s_forDU (D := { D with nx := tz D }) h hz Pv h0 hE hs hd
/-- a list of ints among data -/
theorem dp_inv {x : V} {ns : List Int} (h : Dp K H x (.list (ns.map .int))) : ∃ a, x = .ref a ∧ SqL K H a (ns.map V.int) := by
  cases h with
  | lst hs hd =>
    rename_i a xs
    refine ⟨a, rfl, ?_⟩
    have : ∀ (ms : List Int) (vs : List V), DpAll K H vs (ms.map .int) → vs = ms.map V.int := by
      intro ms
      induction ms with
      | nil => intro vs h; cases h; rfl
      | cons m r ih =>
        intro vs h
        rw [List.map_cons] at h
        cases h with
        | cons h1 h2 => cases h1; rw [ih _ h2]; rfl
    rw [← this ns xs hd]
    exact hs
theorem dp_invI {x : V} {i : Int} (h : Dp K H x (.int i)) : x = .int i := by cases h; rfl
theorem dp_invB {x : V} {b : Bool} (h : Dp K H x (.bool b)) : x = .bl b := by cases h; rfl
/-- a comprehension over a tuple made on the way -/
theorem el_lcNU {j : Nat} {vs : List Nat} (f : Nat → Bool) (v : Nat → V) (h : EvU tl σ H xs) (hz : xs.length ≤ 40000) (hw : ∀ x, wipe ((wipe σ vs).set j (some x)) vs = wipe σ vs)
    (ht : ∀ (i : Nat) (x : V) H1, Ex H H1 → xs[i]? = some x → EvT t ((wipe σ vs).set j (some x)) H1 (f i)) (he : ∀ (i : Nat) (x : V) H1, Ex H H1 → xs[i]? = some x → f i = true → Ev te ((wipe σ vs).set j (some x)) H1 (v i)) :
    EvL (tLc (iTup K tl) (gName j) t te vs) σ H (given xs.length f v) := fun H0 e Q q => h H0 e _ fun a H1 ha e1 hx => ⟨a, rfl, ⟨xs, st_of hx⟩, fun Dl hD =>
  lc_tup (xs := xs) (Cw H1 f v Dl) ⟨hD, Ex.new hD, upd_same⟩ (fun i H' _ p => st_of (p.2.1 a _ hx)) (fun i x H' hi p => ⟨hw x, cw_turn p (by have := (List.getElem?_eq_some_iff.mp hi).1; omega) (ht i x H1 (e.trans e1) hi) (fun hf => he i x H1 (e.trans e1) hi hf)⟩)
    (fun H' p => q Dl H' (fresh_back e1 p.1) (e1.trans p.2.1) p.2.2)⟩
theorem dp_bools {K : PySem.W.Frag} {H : Hp} : ∀ bs : List Bool, DpAll K H (bs.map V.bl) (bs.map PyData.bool)
  | [] => .nil
  | b :: r => .cons (.bl b) (dp_bools r)
theorem ed_Lb {bs : List Bool} (h : EvL te σ H (bs.map V.bl)) : EvD K te σ H (.list (bs.map .bool)) := fun H1 e Q q => h H1 e Q fun p H2 n e2 a => q _ H2 e2 (.lst (sq_of a) (dp_bools bs))
end
section
variable {K : PySem.W.Frag} {mg : Str → Option Value} {CA CC CN C C' : Addr} {σ : L2.St} {H H' : Hp} {ta tb tc te tx tl : TE} {t u : TT} {x y z v : V} {r : R2} {D : Ends} {tu tw tz : TS} {g : TG} {xs ys : List V} {ds : List PyData}
theorem ed_bl {b : Bool} (h : Ev te σ H (.bl b)) : EvD K te σ H (.bool b) := ed_ev h (.bl b)
theorem ev_fldPM (T : Ts K mg CA CC CN) {i : Int} (h : EvNever CN te σ H i) : Ev (tFld K te "place") σ H (.int i) := fun H1 e Q q =>
  h H1 e _ fun a H2 na e2 hc => by
    obtain ⟨dx, h1⟩ := hc
    exact ⟨a, CN, dx, _, _, rfl, h1, T.tN.cl, T.nP, rfl, q H2 e2⟩
theorem q_asgC {i : Nat} {ns : List Int} (h : EvComes CC te σ H ns) (k : ∀ x p H1, H x = none → H p = none → Ex H H1 → IsComes CC H1 x p ns → tz D (σ.set i (some (.ref x))) H1) : tSeq (tAsg te (gName i)) tz D σ H := h H (Ex.refl _) _ fun x p H1 nx np e hc => k x p H1 nx np e hc
theorem q_asgN {i : Nat} {n : Int} (h : EvNever CN te σ H n) (k : ∀ x H1, H x = none → Ex H H1 → IsNever CN H1 x n → tz D (σ.set i (some (.ref x))) H1) : tSeq (tAsg te (gName i)) tz D σ H := h H (Ex.refl _) _ fun x H1 nx e hc => k x H1 nx e hc
theorem rd_asgTup {ta : TA} (h : ta σ H fun xs H1 => xs.length ≤ sizeLine ∧ ∀ p, H1 p = none → g (.ref p) σ (upd H1 p (.tup xs)) (tz D)) : tSeq (tAsg (tTup ta) g) tz D σ H := h
theorem rd_cons {tr : TA} {Q : List V → Hp → Prop} (h : te σ H fun x H1 => tr σ H1 fun xs H2 => Q (x :: xs) H2) : tCons te tr σ H Q := h
theorem rd_nil {Q : List V → Hp → Prop} (h : Q [] H) : tNil σ H Q := h
/-- list(range(n)) -/
theorem el_listRg {n : Nat} (h : Ev te σ H (.int (n : Int))) (hn : n ≤ 1000) : EvL (tLstRg (tRg1 te)) σ H (((List.range n).map fun i : Nat => (i : Int)).map V.int) := fun H1 e Q q =>
  h H1 e _ fun H2 e2 => ⟨n, rfl, ⟨by omega, by omega, by omega, by omega⟩, fun p np => q p _ (fresh_back e2 np) (e2.trans (Ex.new np)) (by
    rw [upd_same]
    congr 2
    unfold rgV
    rw [List.map_map, show ((n : Int) - 0).toNat = n by omega]
    apply List.map_congr_left
    intro i _
    show V.int (0 + (i : Int)) = V.int (i : Int)
    rw [Int.zero_add])⟩
theorem q_forNU (h : EvU tl σ H xs) (Pv : Hp → Nat → L2.St → Hp → Prop) (h0 : ∀ B, Ex H B → Pv B 0 σ B) (hE : ∀ B i σ' H', Pv B i σ' H' → Ex B H')
    (hs : ∀ B i x σ' H', Ex H B → xs[i]? = some x → Pv B i σ' H' → g x σ' H' fun σ2 H2 => tu { D with nx := Pv B (i + 1), ct := Pv B (i + 1), bk := tz D } σ2 H2) (hd : ∀ B σ' H', Ex H B → Pv B xs.length σ' H' → tz D σ' H') : tSeq (tFor (iTup K tl) g tu) tz D σ H := s_forNU (D := { D with nx := tz D }) h Pv h0 hE hs hd
/-- over a tuple made on the way, its place told -/
theorem s_forNUa (h : EvU tl σ H xs) (Pv : Addr → Nat → L2.St → Hp → Prop) (h0 : ∀ p H1, H p = none → Ex H H1 → H1 p = some (.tup xs) → Pv p 0 σ H1) (hl : ∀ p i σ' H', i ≤ xs.length → Pv p i σ' H' → SqT K H' p xs)
    (hs : ∀ p i x σ' H', xs[i]? = some x → Pv p i σ' H' → g x σ' H' fun σ2 H2 => tu { D with nx := Pv p (i + 1), ct := Pv p (i + 1), bk := D.nx } σ2 H2) (hd : ∀ p σ' H', Pv p xs.length σ' H' → D.nx σ' H') : tFor (iTup K tl) g tu D σ H :=
  h H (Ex.refl _) _ fun p B np e hp => ⟨p, rfl, ⟨xs, st_of hp⟩, for_tup (Pv p) (h0 p B np e hp) (fun i σ' H' hi hP => hl p i σ' H' hi hP) (fun i x σ' H' hi hP => hs p i x σ' H' hi hP) (fun σ' H' hP => hd p σ' H' hP)⟩
theorem q_forNUa (h : EvU tl σ H xs) (Pv : Addr → Nat → L2.St → Hp → Prop) (h0 : ∀ p H1, H p = none → Ex H H1 → H1 p = some (.tup xs) → Pv p 0 σ H1) (hl : ∀ p i σ' H', i ≤ xs.length → Pv p i σ' H' → SqT K H' p xs)
    (hs : ∀ p i x σ' H', xs[i]? = some x → Pv p i σ' H' → g x σ' H' fun σ2 H2 => tu { D with nx := Pv p (i + 1), ct := Pv p (i + 1), bk := tz D } σ2 H2) (hd : ∀ p σ' H', Pv p xs.length σ' H' → tz D σ' H') : tSeq (tFor (iTup K tl) g tu) tz D σ H := s_forNUa (D := { D with nx := tz D }) h Pv h0 hl hs hd
end
theorem upd_none {H : Hp} {a p : Addr} {o : HO} (h : (upd H a o) p = none) : H p = none ∧ p ≠ a := by
  have hn : p ≠ a := fun e => by subst e; rw [upd_same] at h; cases h
  rw [upd_ne hn] at h
  exact ⟨h, hn⟩
theorem at_ints {ns : List Int} {i : Nat} (hi : i < ns.length) : atI (ns.map V.int) (i : Int) = some (.int (ns.getD i 0)) := by
  refine atI_nat ?_
  rw [List.getElem?_map, List.getElem?_eq_getElem hi, List.getD_eq_getElem?_getD, List.getElem?_eq_getElem hi]
  rfl
theorem given_some {p : List Int} (hp : IsPat p) {t : Int} (ht : 0 < t) : given (knownF p) (fun i => decide (((p.count (i : Int) : Nat) : Int) = t)) (fun i => V.int (i : Int)) = (someF p t).map V.int := by
  rw [some_prog hp, if_pos ht]
  unfold given
  rw [List.filter_map, List.map_map]
  rfl
theorem map_length (ns : List Int) : (ns.map V.int).length = ns.length := List.length_map _
end Oa
/-! lists of data, made and gone through -/
namespace Oa
open PySem PySem.Spec PyProof.Rows L2 Evl
def dRow (ns : List Int) : PyData := .list (ns.map .int)
def dRows (xss : List (List Int)) : List PyData := xss.map dRow
/-- a heap without one place -/
def del (H : Hp) (X : Addr) : Hp := fun a => if a = X then none else H a
theorem del_ne {H : Hp} {X a : Addr} (h : a ≠ X) : del H X a = H a := by unfold del; rw [if_neg h]
theorem del_ex (H : Hp) (X : Addr) : Ex (del H X) H := fun a o h => by
  unfold del at h
  by_cases e : a = X
  · rw [if_pos e] at h; cases h
  · rw [if_neg e] at h; exact h
theorem ex_del {H H' : Hp} {X : Addr} (e : Ex H H') (h : H X = none) : Ex H (del H' X) := fun a o ha => by
  rw [del_ne (ne_of_none ha h)]; exact e a o ha
theorem del_mono {H H' : Hp} {X : Addr} (e : Ex H H') : Ex (del H X) (del H' X) := fun a o h => by
  unfold del at h
  by_cases q : a = X
  · rw [if_pos q] at h; cases h
  · rw [if_neg q] at h; rw [del_ne q]; exact e a o h
theorem del_upd {H : Hp} {X : Addr} {o : HO} : del (upd H X o) X = del H X := by
  funext a
  unfold del
  by_cases q : a = X
  · rw [if_pos q, if_pos q]
  · rw [if_neg q, if_neg q, upd_ne q]
theorem del_put {H : Hp} {X : Addr} {o : HO} : Ex (del H X) (upd H X o) := fun a u h => del_ex _ X a u (by rw [del_upd]; exact h)
/-- H without what is in U and not in B -/
def old (B U H : Hp) : Hp := fun a => match B a, U a with
  | none, some _ => none
  | _, _ => H a
theorem old_some {B U H : Hp} {a : Addr} {o : HO} : old B U H a = some o ↔ H a = some o ∧ (B a = none → U a = none) := by
  unfold old
  cases hb : B a with
  | none =>
    cases hu : U a with
    | none => simp
    | some u => simp
  | some b => simp
theorem old_ex (B U H : Hp) : Ex (old B U H) H := fun a o h => (old_some.mp h).1
theorem old_mono {B U U' H H' : Hp} (e : Ex H H') (eu : Ex U' U) : Ex (old B U H) (old B U' H') := fun a o h => by
  obtain ⟨h1, h2⟩ := old_some.mp h
  exact old_some.mpr ⟨e _ _ h1, fun hb => fresh_back eu (h2 hb)⟩
/-- a change at a place that is left out -/
theorem old_put {B U H : Hp} {X : Addr} {o : HO} (hb : B X = none) (hu : U X ≠ none) : old B U (upd H X o) = old B U H := by
  funext a
  by_cases q : a = X
  · subst q
    unfold old
    rw [hb]
    cases h : U a with
    | none => exact absurd h hu
    | some u => rfl
  · unfold old
    rw [upd_ne q]
theorem old_del {B U H : Hp} {X : Addr} (hb : B X = none) (hu : U X ≠ none) : Ex (old B U H) (del H X) := fun a o h => by
  obtain ⟨h1, h2⟩ := old_some.mp h
  rw [del_ne (fun q => hu (by rw [← q]; exact h2 (by rw [q]; exact hb)))]
  exact h1
theorem ex_old {B U H : Hp} (e : Ex B H) : Ex B (old B U H) := fun a o h => old_some.mpr ⟨e _ _ h, fun q => by rw [h] at q; cases q⟩
/-- which turns give, and what -/
def gv {α : Type} (n : Nat) (f : Nat → Bool) (v : Nat → α) : List α := ((List.range n).filter f).map v
theorem gv_yes {α : Type} {n : Nat} {f : Nat → Bool} {v : Nat → α} (h : f n = true) : gv (n + 1) f v = gv n f v ++ [v n] := by
  unfold gv
  rw [List.range_succ, List.filter_append, List.map_append, List.filter_cons, if_pos h] <;> rfl
theorem gv_no {α : Type} {n : Nat} {f : Nat → Bool} {v : Nat → α} (h : f n = false) : gv (n + 1) f v = gv n f v := by
  unfold gv
  rw [List.range_succ, List.filter_append, List.map_append, List.filter_cons, if_neg (by rw [h]; decide)]
  show _ ++ [] = _
  rw [List.append_nil]
theorem gv_len {α : Type} (n : Nat) (f : Nat → Bool) (v : Nat → α) : (gv n f v).length ≤ n := by
  unfold gv
  rw [List.length_map]
  have h := List.length_filter_le f (List.range n)
  rw [List.length_range] at h
  exact h
theorem gv_all {α : Type} (n : Nat) (v : Nat → α) : gv n (fun _ => true) v = (List.range n).map v := by
  unfold gv
  rw [List.filter_eq_self.mpr (fun _ _ => rfl)]
/-- by the items of a list -/
theorem gv_list {α β : Type} (l : List α) (f : α → Bool) (v : α → β) (d : α) : gv l.length (fun i => f (l.getD i d)) (fun i => v (l.getD i d)) = (l.filter f).map v := by
  induction l with
  | nil => rfl
  | cons a r ih =>
    unfold gv at ih ⊢
    rw [List.length_cons, List.range_succ_eq_map, List.filter_cons, List.filter_cons]
    have e0 : (a :: r).getD 0 d = a := rfl
    have e1 : (List.map Nat.succ (List.range r.length)).filter (fun i => f ((a :: r).getD i d)) = ((List.range r.length).filter fun i => f (r.getD i d)).map Nat.succ := by
      rw [List.filter_map]; rfl
    have e2 : (((List.range r.length).filter fun i => f (r.getD i d)).map Nat.succ).map (fun i => v ((a :: r).getD i d)) = ((List.range r.length).filter fun i => f (r.getD i d)).map fun i => v (r.getD i d) := by
      rw [List.map_map]; rfl
    rw [e1, e0]
    cases h : f a with
    | true => simp only [if_true, List.map_cons]; rw [e2, ih, e0]
    | false => simp only [Bool.false_eq_true, if_false]; rw [e2, ih]
theorem given_gv (n : Nat) (f : Nat → Bool) (v : Nat → V) : given n f v = gv n f v := rfl
theorem gv_map {α β : Type} (n : Nat) (f : Nat → Bool) (v : Nat → α) (g : α → β) : (gv n f v).map g = gv n f fun i => g (v i) := by
  unfold gv; rw [List.map_map]; rfl
section
variable {K : PySem.W.Frag} {σ : L2.St} {H H' : Hp} {ta tb tc te tx tl : TE} {t u : TT} {x y z v : V} {r : R2} {D : Ends} {tu tw tz : TS} {g : TG} {d e : PyData} {ds es : List PyData} {xss : List (List Int)}
/-- a new list of data -/
def EvDN (K : PySem.W.Frag) (te : TE) (σ : L2.St) (H : Hp) (ds : List PyData) : Prop := ∀ H1, Ex H H1 → ∀ Q : VK, (∀ p vs H2, H1 p = none → Ex H1 H2 → H2 p = some (.lst vs) → DpAll K H2 vs ds → Q (.ref p) H2) → te σ H1 Q
/-- data that do not rest on what was made since H -/
def EvDF (K : PySem.W.Frag) (te : TE) (σ : L2.St) (H : Hp) (d : PyData) : Prop := ∀ H1, Ex H H1 → ∀ Q : VK, (∀ v H2, Ex H1 H2 → Dp K (old H H1 H2) v d → Q v H2) → te σ H1 Q
/-- a new list of such -/
def EvDNF (K : PySem.W.Frag) (te : TE) (σ : L2.St) (H : Hp) (ds : List PyData) : Prop := ∀ H1, Ex H H1 → ∀ Q : VK, (∀ p vs H2, H1 p = none → Ex H1 H2 → H2 p = some (.lst vs) → DpAll K (old H H1 H2) vs ds → Q (.ref p) H2) → te σ H1 Q
def RetD (K : PySem.W.Frag) (ds : List PyData) (H : Hp) (Q : VK) : Prop := ∀ p vs H2, H p = none → Ex H H2 → H2 p = some (.lst vs) → DpAll K H2 vs ds → Q (.ref p) H2
def SpD (K : PySem.W.Frag) (sp : Sp) (vs : List V) (H : Hp) (ds : List PyData) : Prop := ∀ H1, Ex H H1 → ∀ Q : VK, RetD K ds H1 Q → ∀ E : XK, sp vs H1 Q E
theorem EvDN.dl (h : EvDN K te σ H ds) : EvDL K te σ H ds := fun H1 e Q q => h H1 e Q fun p vs H2 _ e2 a b => q p vs H2 e2 a b
theorem EvDN.ed (h : EvDN K te σ H ds) : EvD K te σ H (.list ds) := h.dl.ed
theorem EvDF.ed (h : EvDF K te σ H d) : EvD K te σ H d := fun H1 e Q q => h H1 e Q fun v H2 e2 a => q v H2 e2 (dp_mono (old_ex _ _ _) a)
theorem EvDNF.dn (h : EvDNF K te σ H ds) : EvDN K te σ H ds := fun H1 e Q q => h H1 e Q fun p vs H2 n e2 a b => q p vs H2 n e2 a (dpA_mono (old_ex _ _ _) b)
theorem edf_L {ns : List Int} (h : EvL te σ H (ns.map V.int)) : EvDF K te σ H (dRow ns) := fun H1 e Q q => h H1 e Q fun p H2 n e2 a => q _ H2 e2 (.lst (sq_of (old_some.mpr ⟨a, fun _ => n⟩)) (dp_ints ns))
theorem edf_ev (h : Ev te σ H v) (hd : Dp K H v d) : EvDF K te σ H d := fun H1 e Q q => h H1 e Q fun H2 e2 => q v H2 e2 (dp_mono (ex_old (e.trans e2)) hd)
theorem edf_int {i : Int} (h : Ev te σ H (.int i)) : EvDF K te σ H (.int i) := edf_ev h (.int i)
theorem edn_call {sp : Sp} {dvs vs : List V} {E : XK} {ta : TA} (h : EvA ta σ H vs) (hs : SpD K sp (vs ++ dvs) H ds) : EvDN K (tCall sp dvs E ta) σ H ds := fun H1 e Q q =>
  h H1 e _ fun H2 e2 => hs H2 (e.trans e2) Q (fun p ws H3 n e3 a b => q p ws H3 (fresh_back e2 n) (e2.trans e3) a b) E
/-- a call that is handed data alone -/
theorem el_callD {sp : Sp} {E : XK} {xs : List V} (h : EvD K te σ H d) (hs : ∀ v H1, Ex H H1 → Dp K H1 v d → SpL sp [v] H1 xs) : EvL (tCall sp [] E (tCons te tNil)) σ H xs := fun H1 e Q q =>
  h H1 e _ fun v H2 e2 a => hs v H2 (e.trans e2) a H2 (Ex.refl _) Q (fun p3 H3 n3 e3 a3 => q p3 H3 (fresh_back e2 n3) (e2.trans e3) a3) E
theorem ev_callD {sp : Sp} {E : XK} (h : EvD K te σ H d) (hs : ∀ v H1, Ex H H1 → Dp K H1 v d → SpV sp [v] H1 z) : Ev (tCall sp [] E (tCons te tNil)) σ H z := fun H1 e Q q =>
  h H1 e _ fun v H2 e2 a => hs v H2 (e.trans e2) a H2 (Ex.refl _) Q (fun H3 e3 => q H3 (e2.trans e3)) E
def Cd (K : PySem.W.Frag) (H : Hp) (f : Nat → Bool) (v : Nat → PyData) (Dl : Addr) (i : Nat) (H' : Hp) : Prop := H Dl = none ∧ Ex H H' ∧ ∃ vs, H' Dl = some (.lst vs) ∧ DpAll K (del H' Dl) vs (gv i f v)
theorem cd_start {H1 : Hp} {f : Nat → Bool} {v : Nat → PyData} {Dl : Addr} (h : H1 Dl = none) : Cd K H1 f v Dl 0 (upd H1 Dl (.lst [])) := ⟨h, Ex.new h, [], upd_same, .nil⟩
theorem cd_turn {f : Nat → Bool} {v : Nat → PyData} {Dl : Addr} {i : Nat} {σ2 : L2.St} (p : Cd K H f v Dl i H') (hi : i < 50000) (ht : EvT t σ2 H (f i)) (he : f i = true → EvDF K te σ2 H (v i)) :
    t σ2 H' fun b H3 => if b = true then te σ2 H3 fun y H4 => ∃ acc, H4 Dl = some (.lst acc) ∧ acc.length < sizeLine ∧ Cd K H f v Dl (i + 1) (upd H4 Dl (.lst (acc ++ [y]))) else Cd K H f v Dl (i + 1) H3 := by
  obtain ⟨p1, p2, vs, p3, p4⟩ := p
  refine ht H' p2 _ fun H3 e3 => ?_
  cases hf : f i with
  | true =>
    show te σ2 H3 fun y H4 => ∃ acc, H4 Dl = some (.lst acc) ∧ acc.length < sizeLine ∧ Cd K H f v Dl (i + 1) (upd H4 Dl (.lst (acc ++ [y])))
    refine he hf H3 (p2.trans e3) _ fun w H4 e4 hD => ⟨vs, e4 Dl _ (e3 Dl _ p3), sz_lt ?_, p1, Ex.mut ((p2.trans e3).trans e4) p1, vs ++ [w], upd_same, ?_⟩
    · rw [dpA_len p4]; have := gv_len i f v; omega
    · rw [gv_yes hf, del_upd]
      refine dpA_app (dpA_mono (del_mono (e3.trans e4)) p4) (.cons (dp_mono (old_del p1 ?_) hD) .nil)
      rw [e3 Dl _ p3]; exact fun q => nomatch q
  | false =>
    show Cd K H f v Dl (i + 1) H3
    refine ⟨p1, p2.trans e3, vs, e3 Dl _ p3, ?_⟩
    rw [gv_no hf]
    exact dpA_mono (del_mono e3) p4
theorem cd_end {H1 : Hp} {f : Nat → Bool} {v : Nat → PyData} {Dl : Addr} {n : Nat} {Q : VK} (q : ∀ p vs H2, H p = none → Ex H H2 → H2 p = some (.lst vs) → DpAll K H2 vs (gv n f v) → Q (.ref p) H2) (e1 : Ex H H1) (p : Cd K H1 f v Dl n H') : Q (.ref Dl) H' := by
  obtain ⟨p1, p2, vs, p3, p4⟩ := p
  exact q Dl vs H' (fresh_back e1 p1) (e1.trans p2) p3 (dpA_mono (del_ex _ _) p4)
/-- [data for i in range(n)] -/
theorem edn_lcR1 {ta : TA} {j : Nat} {vs : List Nat} {n : Int} (f : Nat → Bool) (v : Nat → PyData) (h : EvA ta σ H [.int n]) (hn : 0 ≤ n ∧ n ≤ 40000) (hw : ∀ x, wipe ((wipe σ vs).set j (some x)) vs = wipe σ vs)
    (ht : ∀ (i : Nat) H1, Ex H H1 → (i : Int) < n → EvT t ((wipe σ vs).set j (some (.int (i : Int)))) H1 (f i)) (he : ∀ (i : Nat) H1, Ex H H1 → (i : Int) < n → f i = true → EvDF K te ((wipe σ vs).set j (some (.int (i : Int)))) H1 (v i)) :
    EvDN K (tLc (iRng1 ta) (gName j) t te vs) σ H (gv n.toNat f v) := fun H0 e Q q => h H0 e _ fun H1 e1 => ⟨n, rfl, by omega, by omega, fun Dl hD =>
  lc_range (lo := 0) (n := n.toNat) (Cd K H1 f v Dl) (cd_start hD) (fun i H' hi p => by
    have e0 : (0 : Int) + (i : Int) = (i : Int) := Int.zero_add _
    show wipe ((wipe σ vs).set j (some (.int ((0 : Int) + (i : Int))))) vs = wipe σ vs ∧ t ((wipe σ vs).set j (some (.int ((0 : Int) + (i : Int))))) H' fun b H3 => if b = true then te ((wipe σ vs).set j (some (.int ((0 : Int) + (i : Int))))) H3 fun y H4 => ∃ acc, H4 Dl = some (.lst acc) ∧ acc.length < sizeLine ∧ Cd K H1 f v Dl (i + 1) (upd H4 Dl (.lst (acc ++ [y]))) else Cd K H1 f v Dl (i + 1) H3
    rw [e0]
    exact ⟨hw _, cd_turn p (by omega) (ht i H1 (e.trans e1) (by omega)) (fun hf => he i H1 (e.trans e1) (by omega) hf)⟩) (fun H' p => cd_end q e1 p)⟩
/-- the same, away from what was made since B -/
def Cf (K : PySem.W.Frag) (B H : Hp) (f : Nat → Bool) (v : Nat → PyData) (Dl : Addr) (i : Nat) (H' : Hp) : Prop := B Dl = none ∧ H Dl = none ∧ Ex B H ∧ Ex H H' ∧ ∃ vs, H' Dl = some (.lst vs) ∧ DpAll K (old B (upd H Dl (.lst [])) H') vs (gv i f v)
theorem cf_turn {B : Hp} {f : Nat → Bool} {v : Nat → PyData} {Dl : Addr} {i : Nat} {σ2 : L2.St} (p : Cf K B H f v Dl i H') (hi : i < 50000) (ht : EvT t σ2 B (f i)) (he : f i = true → EvDF K te σ2 B (v i)) :
    t σ2 H' fun b H3 => if b = true then te σ2 H3 fun y H4 => ∃ acc, H4 Dl = some (.lst acc) ∧ acc.length < sizeLine ∧ Cf K B H f v Dl (i + 1) (upd H4 Dl (.lst (acc ++ [y]))) else Cf K B H f v Dl (i + 1) H3 := by
  obtain ⟨p0, p1, pb, p2, vs, p3, p4⟩ := p
  refine ht H' (pb.trans p2) _ fun H3 e3 => ?_
  have ne : upd H Dl (.lst []) Dl ≠ none := by rw [upd_same]; exact fun q => nomatch q
  have eU : ∀ H5, Ex H3 H5 → Ex (old B (upd H Dl (.lst [])) H') (old B (upd H Dl (.lst [])) H5) := fun H5 e5 => old_mono (e3.trans e5) (Ex.refl _)
  cases hf : f i with
  | true =>
    show te σ2 H3 fun y H4 => ∃ acc, H4 Dl = some (.lst acc) ∧ acc.length < sizeLine ∧ Cf K B H f v Dl (i + 1) (upd H4 Dl (.lst (acc ++ [y])))
    refine he hf H3 (pb.trans (p2.trans e3)) _ fun w H4 e4 hD => ⟨vs, e4 Dl _ (e3 Dl _ p3), sz_lt ?_, p0, p1, pb, Ex.mut ((p2.trans e3).trans e4) p1, vs ++ [w], upd_same, ?_⟩
    · rw [dpA_len p4]; have := gv_len i f v; omega
    · rw [gv_yes hf, old_put p0 ne]
      refine dpA_app (dpA_mono (eU H4 e4) p4) (.cons (dp_mono (fun a o ha => ?_) hD) .nil)
      obtain ⟨q1, q2⟩ := old_some.mp ha
      refine old_some.mpr ⟨q1, fun hb => ?_⟩
      have q3 := q2 hb
      by_cases qa : a = Dl
      · rw [qa, e3 Dl _ p3] at q3; cases q3
      · rw [upd_ne qa]; exact fresh_back (p2.trans e3) q3
  | false =>
    show Cf K B H f v Dl (i + 1) H3
    refine ⟨p0, p1, pb, p2.trans e3, vs, e3 Dl _ p3, ?_⟩
    rw [gv_no hf]
    exact dpA_mono (eU H3 (Ex.refl _)) p4
theorem ednf_lcR1 {ta : TA} {j : Nat} {vs : List Nat} {n : Int} (f : Nat → Bool) (v : Nat → PyData) (h : EvA ta σ H [.int n]) (hn : 0 ≤ n ∧ n ≤ 40000) (hw : ∀ x, wipe ((wipe σ vs).set j (some x)) vs = wipe σ vs)
    (ht : ∀ (i : Nat), (i : Int) < n → EvT t ((wipe σ vs).set j (some (.int (i : Int)))) H (f i)) (he : ∀ (i : Nat), (i : Int) < n → f i = true → EvDF K te ((wipe σ vs).set j (some (.int (i : Int)))) H (v i)) :
    EvDNF K (tLc (iRng1 ta) (gName j) t te vs) σ H (gv n.toNat f v) := fun H0 e Q q => h H0 e _ fun H1 e1 => ⟨n, rfl, by omega, by omega, fun Dl hD =>
  lc_range (lo := 0) (n := n.toNat) (Cf K H H1 f v Dl) ⟨fresh_back (e.trans e1) hD, hD, e.trans e1, Ex.new hD, [], upd_same, .nil⟩ (fun i H' hi p => by
    have e0 : (0 : Int) + (i : Int) = (i : Int) := Int.zero_add _
    show wipe ((wipe σ vs).set j (some (.int ((0 : Int) + (i : Int))))) vs = wipe σ vs ∧ t ((wipe σ vs).set j (some (.int ((0 : Int) + (i : Int))))) H' fun b H3 => if b = true then te ((wipe σ vs).set j (some (.int ((0 : Int) + (i : Int))))) H3 fun y H4 => ∃ acc, H4 Dl = some (.lst acc) ∧ acc.length < sizeLine ∧ Cf K H H1 f v Dl (i + 1) (upd H4 Dl (.lst (acc ++ [y]))) else Cf K H H1 f v Dl (i + 1) H3
    rw [e0]
    exact ⟨hw _, cf_turn p (by omega) (ht i (by omega)) (fun hf => he i (by omega) hf)⟩) (fun H' p => by
    obtain ⟨p0, p1, pb, p2, vs, p3, p4⟩ := p
    exact q Dl vs H' (fresh_back e1 p1) (e1.trans p2) p3 (dpA_mono (old_mono (Ex.refl _) (e1.trans (Ex.new p1))) p4))⟩
/-- [data for x in a list of flat things] -/
theorem edn_lcL {a : Addr} {xs : List V} {j : Nat} {vs : List Nat} (f : Nat → Bool) (v : Nat → PyData) (h : Ev tl σ H (.ref a)) (hx : SqL K H a xs) (hz : xs.length ≤ 40000) (hw : ∀ x, wipe ((wipe σ vs).set j (some x)) vs = wipe σ vs)
    (ht : ∀ (i : Nat) (x : V) H1, Ex H H1 → xs[i]? = some x → EvT t ((wipe σ vs).set j (some x)) H1 (f i)) (he : ∀ (i : Nat) (x : V) H1, Ex H H1 → xs[i]? = some x → f i = true → EvDF K te ((wipe σ vs).set j (some x)) H1 (v i)) :
    EvDN K (tLc (iList K tl) (gName j) t te vs) σ H (gv xs.length f v) := fun H0 e Q q => h H0 e _ fun H1 e1 => ⟨a, rfl, ⟨xs, ex_l (e.trans e1) hx⟩, fun Dl hD =>
  lc_list (xs := xs) (Cd K H1 f v Dl) (cd_start hD) (fun i H' _ p => ex_l ((e.trans e1).trans p.2.1) hx) (fun i x H' hi p => ⟨hw x, cd_turn p (by have := (List.getElem?_eq_some_iff.mp hi).1; omega) (ht i x H1 (e.trans e1) hi) (fun hf => he i x H1 (e.trans e1) hi hf)⟩)
    (fun H' p => cd_end q e1 p)⟩
theorem dp_unlist (h : Dp K H v (.list ds)) : ∃ a xs, v = .ref a ∧ SqL K H a xs ∧ DpAll K H xs ds := by
  cases h with
  | lst hs hd => exact ⟨_, _, rfl, hs, hd⟩
/-- [data for x in a list of data] -/
theorem edn_lcD {j : Nat} {vs : List Nat} (f : Nat → Bool) (v : Nat → PyData) (h : EvD K tl σ H (.list ds)) (hz : ds.length ≤ 40000) (hw : ∀ x, wipe ((wipe σ vs).set j (some x)) vs = wipe σ vs)
    (ht : ∀ (i : Nat) (x : V) (d : PyData) H1, Ex H H1 → ds[i]? = some d → Dp K H1 x d → EvT t ((wipe σ vs).set j (some x)) H1 (f i)) (he : ∀ (i : Nat) (x : V) (d : PyData) H1, Ex H H1 → ds[i]? = some d → Dp K H1 x d → f i = true → EvDF K te ((wipe σ vs).set j (some x)) H1 (v i)) :
    EvDN K (tLc (iList K tl) (gName j) t te vs) σ H (gv ds.length f v) := fun H0 e Q q => h H0 e _ fun w H1 e1 hd => by
  obtain ⟨a, xs, rfl, hx, hds⟩ := dp_unlist hd
  have hl := dpA_len hds
  refine ⟨a, rfl, ⟨xs, hx⟩, fun Dl hD => lc_list (xs := xs) (Cd K H1 f v Dl) (cd_start hD) (fun i H' _ p => ex_l p.2.1 hx) (fun i x H' hi p => ⟨hw x, ?_⟩) (fun H' p => cd_end q e1 (by rw [← hl]; exact p))⟩
  obtain ⟨d, h1, h2⟩ := dpA_at hds hi
  exact cd_turn p (by have := (List.getElem?_eq_some_iff.mp hi).1; omega) (ht i x d H1 (e.trans e1) h1 h2) (fun hf => he i x d H1 (e.trans e1) h1 h2 hf)
/-- [a flat thing for x in a list of data] -/
theorem el_lcD {j : Nat} {vs : List Nat} (f : Nat → Bool) (v : Nat → V) (h : EvD K tl σ H (.list ds)) (hz : ds.length ≤ 40000) (hw : ∀ x, wipe ((wipe σ vs).set j (some x)) vs = wipe σ vs)
    (ht : ∀ (i : Nat) (x : V) (d : PyData) H1, Ex H H1 → ds[i]? = some d → Dp K H1 x d → EvT t ((wipe σ vs).set j (some x)) H1 (f i)) (he : ∀ (i : Nat) (x : V) (d : PyData) H1, Ex H H1 → ds[i]? = some d → Dp K H1 x d → f i = true → Ev te ((wipe σ vs).set j (some x)) H1 (v i)) :
    EvL (tLc (iList K tl) (gName j) t te vs) σ H (given ds.length f v) := fun H0 e Q q => h H0 e _ fun w H1 e1 hd => by
  obtain ⟨a, xs, rfl, hx, hds⟩ := dp_unlist hd
  have hl := dpA_len hds
  refine ⟨a, rfl, ⟨xs, hx⟩, fun Dl hD => lc_list (xs := xs) (Cw H1 f v Dl) ⟨hD, Ex.new hD, upd_same⟩ (fun i H' _ p => ex_l p.2.1 hx) (fun i x H' hi p => ⟨hw x, ?_⟩) (fun H' p => q Dl H' (fresh_back e1 p.1) (e1.trans p.2.1) (by rw [← hl]; exact p.2.2))⟩
  obtain ⟨d, h1, h2⟩ := dpA_at hds hi
  exact cw_turn p (by have := (List.getElem?_eq_some_iff.mp hi).1; omega) (ht i x d H1 (e.trans e1) h1 h2) (fun hf => he i x d H1 (e.trans e1) h1 h2 hf)
/-- all([.. for x in a list of data]), each True -/
theorem ev_allD {j : Nat} {vs : List Nat} (h : EvD K tl σ H (.list ds)) (hz : ds.length ≤ 40000) (hw : ∀ x, wipe ((wipe σ vs).set j (some x)) vs = wipe σ vs)
    (he : ∀ (i : Nat) (x : V) (d : PyData) H1, Ex H H1 → ds[i]? = some d → Dp K H1 x d → Ev te ((wipe σ vs).set j (some x)) H1 (.bl true)) : Ev (tCB (rAll K) (tCons (tLc (iList K tl) (gName j) tYes te vs) tNil)) σ H (.bl true) :=
  ev_is (ev_all (bs := List.replicate ds.length true) (el_is (el_lcD (fun _ => true) (fun _ => .bl true) h hz hw (fun _ _ _ _ _ _ _ => et_yes) (fun i x d H1 e hi hd _ => he i x d H1 e hi hd)) (by rw [given_all, range_true]))) (by rw [rep_true])
theorem edn_lst {ta : TA} (h : EvDA K ta σ H ds) (hl : ds.length ≤ 100000) : EvDN K (tLst ta) σ H ds := fun H1 e Q q =>
  h H1 e _ fun vs H2 e2 hs => ⟨sz_of (by rw [dpA_len hs]; exact hl), fun p hp => q p vs _ (fresh_back e2 hp) (e2.trans (Ex.new hp)) upd_same (dpA_mono (Ex.new hp) hs)⟩
/-- for x in a list of data -/
theorem s_forD (h : EvD K tl σ H (.list ds)) (Pv : Hp → Nat → L2.St → Hp → Prop) (h0 : ∀ B, Ex H B → Pv B 0 σ B) (hE : ∀ B i σ' H', Pv B i σ' H' → Ex B H')
    (hs : ∀ B i x d σ' H', Ex H B → ds[i]? = some d → Dp K B x d → Pv B i σ' H' → g x σ' H' fun σ2 H2 => tu { D with nx := Pv B (i + 1), ct := Pv B (i + 1), bk := D.nx } σ2 H2) (hd : ∀ B σ' H', Ex H B → Pv B ds.length σ' H' → D.nx σ' H') : tFor (iList K tl) g tu D σ H :=
  h H (Ex.refl _) _ fun v B e2 hv => by
    obtain ⟨a, xs, rfl, hx, hds⟩ := dp_unlist hv
    refine ⟨a, rfl, ⟨xs, hx⟩, for_list (xs := xs) (Pv B) (h0 _ e2) (fun i σ' H' _ hP => ex_l (hE _ i σ' H' hP) hx) (fun i x σ' H' hi hP => ?_) (fun σ' H' hP => hd _ σ' H' e2 (by rw [← dpA_len hds]; exact hP))⟩
    obtain ⟨d, h1, h2⟩ := dpA_at hds hi
    exact hs _ i x d σ' H' e2 h1 h2 hP
theorem q_forD (h : EvD K tl σ H (.list ds)) (Pv : Hp → Nat → L2.St → Hp → Prop) (h0 : ∀ B, Ex H B → Pv B 0 σ B) (hE : ∀ B i σ' H', Pv B i σ' H' → Ex B H')
    (hs : ∀ B i x d σ' H', Ex H B → ds[i]? = some d → Dp K B x d → Pv B i σ' H' → g x σ' H' fun σ2 H2 => tu { D with nx := Pv B (i + 1), ct := Pv B (i + 1), bk := tz D } σ2 H2) (hd : ∀ B σ' H', Ex H B → Pv B ds.length σ' H' → tz D σ' H') : tSeq (tFor (iList K tl) g tu) tz D σ H :=
  s_forD (D := { D with nx := tz D }) h Pv h0 hE hs hd
theorem q_asgD {i : Nat} (h : EvDN K te σ H ds) (k : ∀ p vs H1, H p = none → Ex H H1 → H1 p = some (.lst vs) → DpAll K H1 vs ds → tz D (σ.set i (some (.ref p))) H1) : tSeq (tAsg te (gName i)) tz D σ H := h H (Ex.refl H) _ k
theorem s_asgD {i : Nat} (h : EvDN K te σ H ds) (k : ∀ p vs H1, H p = none → Ex H H1 → H1 p = some (.lst vs) → DpAll K H1 vs ds → D.nx (σ.set i (some (.ref p))) H1) : tAsg te (gName i) D σ H := h H (Ex.refl H) _ k
theorem s_retD (h : EvDN K te σ H ds) (k : ∀ p vs H1, H p = none → Ex H H1 → H1 p = some (.lst vs) → DpAll K H1 vs ds → D.rt (.ref p) H1) : tRet te D σ H := h H (Ex.refl H) _ k
/-- l.extend(a new list of data) -/
theorem s_extD {l : Addr} {xs : List V} (hl : H l = some (.lst xs)) (ha : Ev ta σ H (.ref l)) (h : EvDN K te σ H ds) (hz : xs.length + ds.length ≤ 100000) (k : ∀ p vs H1, H p = none → Ex H H1 → H1 p = some (.lst vs) → DpAll K H1 vs ds → D.nx σ (upd H1 l (.lst (xs ++ vs)))) :
    tDrop (tBM K "list" rExtend ta (tCons te tNil)) D σ H :=
  ha H (Ex.refl _) _ fun H1 e1 => ⟨.inl ⟨rfl, _, sq_of (e1 _ _ hl)⟩, h H1 e1 _ fun p vs H2 n e2 a b => ⟨l, p, xs, vs, rfl, rfl, (e1.trans e2) _ _ hl, a, sz_of (by rw [dpA_len b]; exact hz), k p vs H2 (fresh_back e1 n) (e1.trans e2) a b⟩⟩
/-- l.extend(a new list of data), l not known at B -/
theorem s_extF {B : Hp} {l : Addr} {xs : List V} (eB : Ex B H) (nl : B l = none) (hl : H l = some (.lst xs)) (ha : Ev ta σ H (.ref l)) (h : EvDNF K te σ B ds) (hz : xs.length + ds.length ≤ 100000) (k : ∀ vs H1, Ex H H1 → DpAll K (del H1 l) vs ds → D.nx σ (upd H1 l (.lst (xs ++ vs)))) :
    tDrop (tBM K "list" rExtend ta (tCons te tNil)) D σ H :=
  ha H (Ex.refl _) _ fun H1 e1 => ⟨.inl ⟨rfl, _, sq_of (e1 _ _ hl)⟩, h H1 (eB.trans e1) _ fun p vs H2 n e2 a b => ⟨l, p, xs, vs, rfl, rfl, (e1.trans e2) _ _ hl, a, sz_of (by rw [dpA_len b]; exact hz), k vs H2 (e1.trans e2) (dpA_mono (old_del nl (by rw [e1 _ _ hl]; exact fun q => nomatch q)) b)⟩⟩
/-- x in a list of data -/
theorem ev_inD (ha : EvD K ta σ H d) (hb : EvD K tb σ H (.list ds)) (h1 : SeqAt.shaped d = true) (h2 : SeqAt.shaped (.list ds) = true) : Ev (tOp (rInD K) ta tb) σ H (.bl (ds.any fun z => PyData.eqv z d)) := fun H1 e1 Q q =>
  ha H1 e1 _ fun v H2 e2 hv => hb H2 (e1.trans e2) _ fun w H3 e3 hw => ⟨d, ds, dp_mono e3 hv, hw, h1, h2, q H3 (e2.trans e3)⟩
theorem dRows_get {xss : List (List Int)} {i : Nat} {d : PyData} (h : (dRows xss)[i]? = some d) : ∃ ns, xss[i]? = some ns ∧ d = dRow ns := by
  unfold dRows at h
  rw [List.getElem?_map] at h
  cases e : xss[i]? with
  | none => rw [e] at h; cases h
  | some n => rw [e] at h; exact ⟨n, rfl, (Option.some.inj h).symm⟩
theorem dRows_len : (dRows xss).length = xss.length := List.length_map _
end
theorem lay_rows : ∀ xss : List (List Int), PyData.canLayAll0 (dRows xss) = true
  | [] => by simp only [dRows, List.map_nil, PyData.canLayAll0]
  | n :: r => by
    have := lay_rows r
    unfold dRows at this ⊢
    simp only [List.map_cons, PyData.canLayAll0, dRow, PyData.canLay0, lay_ints, this, Bool.and_self]
theorem depth_rows : ∀ xss : List (List Int), PyData.depthAll (dRows xss) ≤ 1
  | [] => by simp only [dRows, List.map_nil, PyData.depthAll]; omega
  | n :: r => by
    have := depth_rows r
    unfold dRows at this ⊢
    simp only [List.map_cons, PyData.depthAll]
    have h1 : (dRow n).depth = 1 := by simp only [dRow, PyData.depth, depth_ints]
    rw [h1]
    omega
theorem shaped_rows (xss : List (List Int)) : SeqAt.shaped (.list (dRows xss)) = true := by
  have h := depth_rows xss
  unfold SeqAt.shaped
  rw [Bool.and_eq_true]
  refine ⟨by simp only [PyData.canLay0]; exact lay_rows xss, decide_eq_true ?_⟩
  simp only [PyData.depth]
  omega
theorem eqv_row (ns ms : List Int) : PyData.eqv (dRow ns) (dRow ms) = decide (ns = ms) := eqv_list ns ms
theorem eqv_rows : ∀ xs ys : List (List Int), PyData.eqvAll (dRows xs) (dRows ys) = decide (xs = ys)
  | [], [] => by simp [dRows, PyData.eqvAll]
  | [], _ :: _ => by simp [dRows, PyData.eqvAll]
  | _ :: _, [] => by simp [dRows, PyData.eqvAll]
  | n :: r, m :: s => by
    have := eqv_rows r s
    unfold dRows at this ⊢
    simp only [List.map_cons, PyData.eqvAll, eqv_row, this]
    by_cases h : n = m <;> by_cases h2 : r = s <;> simp [h, h2]
theorem eqv_rowsL (xs ys : List (List Int)) : PyData.eqv (.list (dRows xs)) (.list (dRows ys)) = decide (xs = ys) := by
  simp only [PyData.eqv, eqv_rows]
theorem any_rows (xss : List (List Int)) (ns : List Int) : ((dRows xss).any fun z => PyData.eqv z (dRow ns)) = decide (ns ∈ xss) := by
  induction xss with
  | nil => rfl
  | cons a r ih =>
    have e : dRows (a :: r) = dRow a :: dRows r := rfl
    rw [e, List.any_cons, ih, eqv_row]
    by_cases h : a = ns
    · subst h; simp
    · have h' : ¬ ns = a := fun q => h q.symm
      simp [h, h']
theorem dpA_rows_app {K : PySem.W.Frag} {H : Hp} {vs ws : List V} {xs ys : List (List Int)} (h1 : DpAll K H vs (dRows xs)) (h2 : DpAll K H ws (dRows ys)) : DpAll K H (vs ++ ws) (dRows (xs ++ ys)) := by
  unfold dRows
  rw [List.map_append]
  exact dpA_app h1 h2
/-! ### list + list, both read -/
def rCatS (K : PySem.W.Frag) : R2 := fun x y H Q => ∃ l b xs zs, x = .ref l ∧ y = .ref b ∧ SqL K H l xs ∧ SqL K H b zs ∧ xs.length + zs.length ≤ sizeLine ∧ ∀ p, H p = none → Q (.ref p) (upd H p (.lst (xs ++ zs)))
theorem op_catS {X : Cx} : OpR X (binaryOp .Add) (rCatS X.K) := by
  intro pins s σ H x y v u Q I rx ry h
  obtain ⟨l, b, xs, zs, rfl, rfl, hH, hB, hz, q⟩ := h
  cases rx
  cases ry
  obtain ⟨its, r, ⟨⟨cls, dd, data, sl⟩, n, ho, hc, hd0, hd⟩, hl⟩ := I.list hH
  obtain ⟨its2, r2, ⟨⟨cls2, dd2, data2, sl2⟩, n2, ho2, hc2, hd02, hd2⟩, hl2⟩ := I.list hB
  simp only at hc hd hc2 hd2
  subst hc hd hc2 hd2
  have e : its.toArray ++ its2.toArray = (its ++ its2).toArray := by simp
  refine concat_meets ⟨_, ho, rfl⟩ ⟨_, ho2, rfl⟩ noFill_list_add seq_list_add PySem.F.slot_list_add PySem.F.entry_list_add (PySem.F.args_list_add_2 _ _) (list_addW l b its.toArray its2.toArray n n2 dd dd2 sl sl2 (by rw [List.size_toArray, List.size_toArray, ← r.length, ← r2.length]; exact hz)) ⟨ho, ho2, ?_⟩
  rw [e]
  exact ⟨.ref _, _, I.lnew (t' := s.toks) (r.append r2) (by rw [List.length_append]; omega), rfl, q _ I.fresh⟩
section
variable {K : PySem.W.Frag} {σ : L2.St} {H H' : Hp} {ta tb tc te tx tl : TE}
theorem el_catS {a b : Addr} {xs ys : List V} (ha : Ev ta σ H (.ref a)) (h : SqL K H a xs) (hb : Ev tb σ H (.ref b)) (h2 : SqL K H b ys) (hl : xs.length + ys.length ≤ 100000) : EvL (tOp (rCatS K) ta tb) σ H (xs ++ ys) := fun H1 e Q q =>
  ha H1 e _ fun H2 e2 => hb H2 (e.trans e2) _ fun H3 e3 => ⟨a, b, xs, ys, rfl, rfl, ex_l (e.trans (e2.trans e3)) h, ex_l (e.trans (e2.trans e3)) h2, sz_of hl, fun p4 n4 => q p4 _ (fresh_back (e2.trans e3) n4) ((e2.trans e3).trans (Ex.new n4)) upd_same⟩
theorem el_catSN {a : Addr} {xs ys : List V} (ha : Ev ta σ H (.ref a)) (h : SqL K H a xs) (hb : EvL tb σ H ys) (hl : xs.length + ys.length ≤ 100000) : EvL (tOp (rCatS K) ta tb) σ H (xs ++ ys) := fun H1 e Q q =>
  ha H1 e _ fun H2 e2 => hb H2 (e.trans e2) _ fun p2 H3 n3 e3 a3 => ⟨a, p2, xs, ys, rfl, rfl, ex_l (e.trans (e2.trans e3)) h, sq_of a3, sz_of hl, fun p4 n4 => q p4 _ (fresh_back (e2.trans e3) n4) ((e2.trans e3).trans (Ex.new n4)) upd_same⟩
end
section
variable {K : PySem.W.Frag} {σ : L2.St} {H H' : Hp} {ta tb tc te tx tl : TE} {xs : List V} {ds : List PyData} {z : V}
/-- len of a new list of data -/
theorem ev_lenD' (h : EvDN K te σ H ds) : Ev (tCB (rLenS K) (tCons te tNil)) σ H (.int (ds.length : Int)) := fun H1 e Q q =>
  h H1 e _ fun p vs H2 n e2 a b => ⟨p, vs, rfl, Or.inl (sq_of a), by rw [dpA_len b]; exact q H2 e2⟩
theorem el_revN (ha : EvL ta σ H xs) : EvL (tRevL K ta) σ H xs.reverse := fun H1 e Q q =>
  ha H1 e _ fun a H2 na e2 h => ⟨a, xs, rfl, sq_of h, fun p n => q p _ (fresh_back e2 n) (e2.trans (Ex.new n)) upd_same⟩
/-- a call with a new list of ints ahead, a value behind -/
theorem el_callNV {sp : Sp} {E : XK} {ns ys : List Int} {v : V} (h : EvL te σ H (ns.map V.int)) (h2 : Ev tx σ H v) (hs : ∀ p H1, Ex H H1 → H1 p = some (.lst (ns.map V.int)) → SpL sp [.ref p, v] H1 (ys.map V.int)) : EvL (tCall sp [] E (tCons te (tCons tx tNil))) σ H (ys.map V.int) := fun H1 e Q q =>
  h H1 e _ fun p H2 n e2 a => h2 H2 (e.trans e2) _ fun H3 e3 => hs p H3 (e.trans (e2.trans e3)) (e3 _ _ a) H3 (Ex.refl _) Q (fun p3 H4 n3 e4 a4 => q p3 H4 (fresh_back (e2.trans e3) n3) (e2.trans (e3.trans e4)) a4) E
theorem ev_callNV {sp : Sp} {E : XK} {ns : List Int} {v : V} (h : EvL te σ H (ns.map V.int)) (h2 : Ev tx σ H v) (hs : ∀ p H1, Ex H H1 → H1 p = some (.lst (ns.map V.int)) → SpV sp [.ref p, v] H1 z) : Ev (tCall sp [] E (tCons te (tCons tx tNil))) σ H z := fun H1 e Q q =>
  h H1 e _ fun p H2 n e2 a => h2 H2 (e.trans e2) _ fun H3 e3 => hs p H3 (e.trans (e2.trans e3)) (e3 _ _ a) H3 (Ex.refl _) Q (fun H4 e4 => q H4 (e2.trans (e3.trans e4))) E
/-- l.index(data) -/
theorem ev_indexD {a : Addr} {vs : List V} {d z : PyData} {j : Nat} (ha : Ev ta σ H (.ref a)) (hs : SqL K H a vs) (hd : DpAll K H vs ds) (hb : EvD K te σ H d) (s1 : SeqAt.shaped (.list ds) = true) (s2 : SeqAt.shaped d = true) (hz : ds[j]? = some z) (he : PyData.eqv z d = true)
    (hn : ∀ (m : Nat) (z' : PyData), m < j → ds[m]? = some z' → PyData.eqv z' d = false) : Ev (tBM K "list" (rIndexD K) ta (tCons te tNil)) σ H (.int (j : Nat)) := fun H1 e Q q =>
  ha H1 e _ fun H2 e2 => ⟨.inl ⟨rfl, _, ex_l (e.trans e2) hs⟩, hb H2 (e.trans e2) _ fun v H3 e3 hv => ⟨a, v, d, ds, j, z, rfl, rfl, .lst (ex_l (e.trans (e2.trans e3)) hs) (dpA_mono (e.trans (e2.trans e3)) hd), hv, s1, s2, hz, he, hn, q H3 (e2.trans e3)⟩⟩
end
section
variable {K : PySem.W.Frag} {σ : L2.St} {H H' : Hp} {ta tb tc te tx tl : TE} {xs : List V} {ds : List PyData} {z : V}
theorem ev_callVN {sp : Sp} {E : XK} {ns : List Int} {v : V} (h2 : Ev tx σ H v) (h : EvL te σ H (ns.map V.int)) (hs : ∀ p H1, Ex H H1 → H1 p = some (.lst (ns.map V.int)) → SpV sp [v, .ref p] H1 z) : Ev (tCall sp [] E (tCons tx (tCons te tNil))) σ H z := fun H1 e Q q =>
  h2 H1 e _ fun H2 e2 => h H2 (e.trans e2) _ fun p H3 n e3 a => hs p H3 (e.trans (e2.trans e3)) a H3 (Ex.refl _) Q (fun H4 e4 => q H4 (e2.trans (e3.trans e4))) E
theorem ed_callV {d : PyData} (h : EvD K te σ H d) : EvDA K (tCons te tNil) σ H [d] := eda_cons h eda_nil
/-- a pair among data -/
theorem dp_pair {x : V} {H : Hp} {d e : PyData} (h : Dp K H x (.tuple [d, e])) : ∃ t u v, x = .ref t ∧ SqT K H t [u, v] ∧ Dp K H u d ∧ Dp K H v e := by
  cases h with
  | tup hs hd =>
    cases hd with
    | cons h1 r =>
      cases r with
      | cons h2 r2 =>
        cases r2
        exact ⟨_, _, _, rfl, hs, h1, h2⟩
end
end Oa
/-! all patterns of a length -/
namespace Oa
def nextOf (r : List Int) : List (List Int) := (List.range (knownF r + 1)).map fun k : Nat => r ++ [(k : Int)]
def patternsF : Nat → List (List Int)
  | 0 => [[]]
  | n + 1 => (patternsF n).flatMap nextOf
theorem knownF_le (p : List Int) : knownF p ≤ p.length := by
  have := firsts_len [] p
  unfold knownF
  simpa using this
theorem IsPat.unsnoc {r : List Int} {s : Int} (h : IsPat (r ++ [s])) : IsPat r ∧ 0 ≤ s ∧ s ≤ (knownF r : Int) := by
  unfold IsPat at h
  by_cases hs : s ∈ firsts [] r
  · have e : firsts [] (r ++ [s]) = firsts [] r := by rw [firsts_snoc, if_pos hs]
    have ek : knownF (r ++ [s]) = knownF r := by unfold knownF; rw [e]
    rw [e, ek] at h
    have hr : IsPat r := h
    have := (hr.mem s).mp hs
    exact ⟨hr, by omega, by omega⟩
  · have e : firsts [] (r ++ [s]) = firsts [] r ++ [s] := by rw [firsts_snoc, if_neg hs]
    have ek : knownF (r ++ [s]) = knownF r + 1 := by unfold knownF; rw [e, List.length_append]; rfl
    rw [e, ek, List.range_succ, List.map_append] at h
    have hl : (firsts [] r).length = ((List.range (knownF r)).map fun i : Nat => (i : Int)).length := by rw [List.length_map, List.length_range]; rfl
    obtain ⟨h1, h2⟩ := List.append_inj h hl
    have h3 : s = (knownF r : Int) := by simpa using h2
    exact ⟨h1, by omega, by omega⟩
theorem mem_nextOf {r p : List Int} : p ∈ nextOf r ↔ ∃ k : Nat, k ≤ knownF r ∧ p = r ++ [(k : Int)] := by
  unfold nextOf
  rw [List.mem_map]
  constructor
  · rintro ⟨k, hk, rfl⟩
    exact ⟨k, by have := List.mem_range.mp hk; omega, rfl⟩
  · rintro ⟨k, hk, rfl⟩
    exact ⟨k, List.mem_range.mpr (by omega), rfl⟩
theorem mem_patterns : ∀ (n : Nat) (p : List Int), p ∈ patternsF n ↔ IsPat p ∧ p.length = n
  | 0, p => by
    show p ∈ [[]] ↔ _
    rw [List.mem_singleton]
    constructor
    · rintro rfl; exact ⟨isPat_nil, rfl⟩
    · rintro ⟨_, h⟩; exact List.length_eq_zero_iff.mp h
  | n + 1, p => by
    show p ∈ (patternsF n).flatMap nextOf ↔ _
    rw [List.mem_flatMap]
    constructor
    · rintro ⟨r, hr, hp⟩
      obtain ⟨h1, h2⟩ := (mem_patterns n r).mp hr
      obtain ⟨k, hk, rfl⟩ := mem_nextOf.mp hp
      refine ⟨(h1.snoc ?_).1, by rw [List.length_append, h2]; rfl⟩
      by_cases e : k = knownF r
      · exact .inr (by rw [e])
      · exact .inl ((h1.mem _).mpr ⟨by omega, by omega⟩)
    · rintro ⟨h1, h2⟩
      have hne : p ≠ [] := fun q => by rw [q] at h2; simp at h2
      obtain ⟨r, s, rfl⟩ : ∃ r s, p = r ++ [s] := ⟨p.dropLast, p.getLast hne, (List.dropLast_concat_getLast hne).symm⟩
      obtain ⟨h3, h4, h5⟩ := h1.unsnoc
      refine ⟨r, (mem_patterns n r).mpr ⟨h3, by rw [List.length_append] at h2; simpa using h2⟩, mem_nextOf.mpr ⟨s.toNat, by omega, ?_⟩⟩
      rw [Int.toNat_of_nonneg h4]
def fact : Nat → Nat
  | 0 => 1
  | n + 1 => (n + 1) * fact n
theorem flat_len {l : List (List Int)} {f : List Int → List (List Int)} {m : Nat} (h : ∀ r ∈ l, (f r).length ≤ m) : (l.flatMap f).length ≤ m * l.length := by
  induction l with
  | nil => simp
  | cons a r ih =>
    rw [List.flatMap_cons, List.length_append, List.length_cons, Nat.mul_succ]
    have h1 := h a (List.mem_cons_self ..)
    have h2 := ih fun x hx => h x (List.mem_cons_of_mem _ hx)
    omega
theorem patterns_len : ∀ n : Nat, (patternsF n).length ≤ fact n
  | 0 => Nat.le_refl _
  | n + 1 => by
    show ((patternsF n).flatMap nextOf).length ≤ (n + 1) * fact n
    refine Nat.le_trans (flat_len (m := n + 1) fun r hr => ?_) (Nat.mul_le_mul_left _ (patterns_len n))
    unfold nextOf
    rw [List.length_map, List.length_range]
    have h1 := knownF_le r
    have h2 := ((mem_patterns n r).mp hr).2
    omega
theorem fact_le6 {n : Nat} (h : n ≤ 6) : fact n ≤ 720 := by
  match n, h with
  | 0, _ => decide
  | 1, _ => decide
  | 2, _ => decide
  | 3, _ => decide
  | 4, _ => decide
  | 5, _ => decide
  | 6, _ => decide
  | n + 7, h => omega
/-- the counts of all patterns of a length are the good rows of it -/
theorem mem_counts {n : Nat} {row : List Int} (h : row.length = n) : row ∈ (patternsF n).map countsF ↔ Good row := by
  rw [List.mem_map]
  constructor
  · rintro ⟨p, _, rfl⟩; exact good_counts p
  · intro hg
    obtain ⟨h1, h2⟩ := patF_ok hg (number := 0) (by decide) (manyF_pos hg)
    exact ⟨patF row 0, (mem_patterns n _).mpr ⟨h1, by rw [← countsF_len, h2, h]⟩, h2⟩
def goodB (row : List Int) : Bool := !((List.range row.length).map fun i => decide (leftF row i < 1)).any id
theorem goodB_true {row : List Int} (h : Good row) : goodB row = true := by
  unfold goodB
  rw [Bool.not_eq_true', List.any_eq_false]
  intro x hx
  obtain ⟨i, hi, rfl⟩ := List.mem_map.mp hx
  have := h i (List.mem_range.mp hi)
  simp only [id, decide_eq_true_eq]
  omega
theorem goodB_false {row : List Int} (h : ¬ Good row) : goodB row = false := by
  obtain ⟨i, _, h1, h2⟩ := firstWrong_bad h
  unfold goodB
  rw [Bool.not_eq_false', List.any_eq_true]
  exact ⟨true, List.mem_map.mpr ⟨i, List.mem_range.mpr h1, decide_eq_true h2⟩, rfl⟩
end Oa
/-! str of data; defs that are called where nothing is being shown -/
namespace Oa
open PySem PySem.Spec PyProof.Rows L2 Evl
def rStrD (K : PySem.W.Frag) : List V → Hp → VK → Prop := fun vs H Q => ∃ (a : Addr) (d : PyData), vs = [.ref a] ∧ Dp K H (.ref a) d ∧ d.showable = true ∧ d.hasDict = false ∧ d.depth ≤ 40 ∧ d.shown.length ≤ sizeLine ∧ Q (.str d.shown) H
theorem call_strD {X : Cx} (hg : X.A.guards = some []) (hu : X.A.units + 64 < cLine) : CallR X (.type "str") (rStrD X.K) := by
  intro pins s σ H vs us Q I r h
  obtain ⟨a, d, rfl, hd, hs, hn, hp, hz, q⟩ := h
  obtain ⟨u, rfl, ru⟩ := vals1 r
  obtain rfl : u = Value.ref a := ru
  obtain ⟨as, rd⟩ := Dp.reads I d (.ref a) (.ref a) hd rfl
  exact str_of_reads rd hs (fun hx => by rw [hn] at hx; cases hx) hg (by omega) (fun _ _ e => e) (fun h' u tk hk => ⟨.str d.shown, H, I.kept (t' := tk) fun b o e => hk b o e, ⟨_, rfl⟩, q⟩) hz
/-! ### the same contracts, for calls where no repr is under way -/
structure FnG (P : Program) (w : World) (K : PySem.W.Frag) (mg : Str → Option Value) (base : Heap) (k : Nat) (f : Addr) (fd : FuncData) (ps : List Str) (sp : Sp) : Prop where
  len : ∀ vs H Q E, sp vs H Q E → vs.length = ps.length
  run : ∀ (A : Around) (outer : List Env) (s : Shared) (H : Hp) (args : Args) (us : List Value) (vs : List V) (Q : VK) (E : XK), Room k A → A.guards = some [] → Env0 P w K mg base A outer s H → BindsTo s fd args (ps.zip us) → Vals vs us → sp vs H Q E →
    codeAny (model P w) A (.call (.ref f) args) (CR CX0 outer P w H s Q E) s
section
variable {P : Program} {w : World} {K : PySem.W.Frag} {mg : Str → Option Value} {base : Heap}
theorem funG {x qual : Str} {st : Stmt} {f : Addr} {fd : FuncData} {N ps : List Str} {k : Nat} {sp : Sp} (F : Fun K x qual st f fd) (S : FnScope N ps (defScope st)) (len : ∀ vs H Q E, sp vs H Q E → vs.length = ps.length)
    (hbody : ∀ (cdv : Value) (A : Around) (outer : List Env) (s : Shared) (H : Hp) (vs : List V) (Q : VK) (E : XK), Room k (A.deeper (envOfC qual (defScope st) s.heap.objs.size f cdv)) → A.guards = some [] → sp vs H Q E →
      ∃ t, PSs (cxOf CX0 P w K mg base N qual (defScope st) f cdv A outer s H E).nox (defBody st) t ∧ t { nx := fun _ H' => Q .non H', rt := Q } (start N vs) H) : FnG P w K mg base (k + 1) f fd ps sp := by
  obtain ⟨oc, od, kV, doc, pm, an, cdv, ct, osl, rfl, lk, hcd⟩ := F.ex
  constructor
  · exact len
  intro A outer s H args us vs Q E room gd env0 bnd rel hsp
  have inH : K.In s.heap := env0.mod.kin.keeps fun b o e => (env0.bs b o e).1
  have nl : s.heap.NoLimit := env0.mod.nolimit.keeps fun b o e => (env0.bs b o e).1
  refine codeAny_call_function room.depth (inH _ _ lk) rfl S.co S.gen rfl (PySem.W.codeRec_of inH hcd) (bnd _ _ _ _ (wpAny_newFunctionEnv_cells S.kind ?_ ?_))
  · rintro ⟨n, v⟩ hy
    exact (S.par n (List.of_mem_zip hy).1).imp id fun q => ⟨q, PySem.W.cellsFrom_some _ _ _ (.inl q)⟩
  · rintro env rfl sE xE
    refine ⟨nl.keeps xE.toInCall.keep, codeAny_func ?_⟩
    obtain ⟨t, ht, hq⟩ := hbody cdv A outer s H vs Q E (room.deeper _) gd hsp
    have I0 : Inv (cxOf CX0 P w K mg base N qual (defScope st) f cdv A outer s H E) [] (start N vs) H sE := inv_start S room.hd env0 (len _ _ _ _ hsp) rel xE
    refine wpAny_mono (ht.nox.run [] sE (start N vs) H _ I0 hq) (fun fl sF hs => ?_) (fun e sF hs => hs)
    match fl, hs with
    | .ret u, ⟨v, σ', H', J, rv, q⟩ => exact ⟨v, H', J.os, J.bare, J.base, J.hok, rv, q⟩
    | .next, ⟨σ', H', J, q⟩ => exact ⟨V.non, H', J.os, J.bare, J.base, J.hok, rfl, q⟩
    | .brk, ⟨_, _, _, q⟩ => exact False.elim q
    | .cont, ⟨_, _, _, q⟩ => exact False.elim q
/-- a def by its name, of this kind -/
structure DefG (P : Program) (w : World) (K : PySem.W.Frag) (mg : Str → Option Value) (base : Heap) (k : Nat) (x : Str) (ps : List Str) (sp : Sp) : Prop where
  ex : ∃ (f : Addr) (fd : FuncData), FnG P w K mg base k f fd ps sp ∧ mg x = some (.ref f) ∧ PySem.W.keepIn K (.ref f) = true ∧ Binds K fd ps []
theorem Pl.okG {x : Str} {st : Stmt} {N ps : List Str} {k : Nat} {sp : Sp} (p : Pl K mg x st ps) (S : FnScope N ps (defScope st)) (len : ∀ vs H Q E, sp vs H Q E → vs.length = ps.length)
    (hbody : ∀ (f : Addr) (cdv : Value) (A : Around) (outer : List Env) (s : Shared) (H : Hp) (vs : List V) (Q : VK) (E : XK), Room k (A.deeper (envOfC x (defScope st) s.heap.objs.size f cdv)) → A.guards = some [] → sp vs H Q E →
      ∃ t, PSs (cxOf CX0 P w K mg base N x (defScope st) f cdv A outer s H E).nox (defBody st) t ∧ t { nx := fun _ H' => Q .non H', rt := Q } (start N vs) H) : DefG P w K mg base (k + 1) x ps sp := by
  obtain ⟨f, fd, F, hm, hb⟩ := p.ex
  exact ⟨f, fd, funG F S len fun cdv A outer s H vs Q E hr hg h => hbody f cdv A outer s H vs Q E hr hg h, hm, F.kp, hb⟩
end
section
variable {X : Cx} {j k : Nat} {x : Str} {ps : List Str} {sp : Sp} {E : XK} {p pos : Pos} {e : Expr} {es : List Expr} {t : TA}
theorem pe_fnG (d : DefG X.prog X.w X.K X.mg X.base j x ps sp) (hj : j ≤ k) (hr : Room k X.A) (gd : X.A.guards = some []) (hg : Gl X x) (hx : Passes CX0 X E) (ha : PA X (e :: es) t)
    (hdb : (x == ("__debug__" : Str)) = false := by decide) (he : starEach (e :: es) X.env = (false, eval e X.env) :: starEach es X.env := by rfl) (hpl : (backTo pos (starEach es X.env)).any (·.1) = false := by rfl) :
    PE X (.Call (.Name x p) (e :: es) [] pos) (tCall sp [] E t) := by
  obtain ⟨f, fd, F, hm, hk, hb⟩ := d.ex
  refine ⟨fun pins s σ H Q I h => wpAny_Call_Name_kw (ld_glob I hg hm ?_ hdb)⟩
  refine PySem.W.callWith_K (h₀ := X.base) I.ok.mod.kin hk (thn (ha.run pos pins s σ H _ I h) fun us s1 ⟨vs, H1, I1, r, q⟩ => ⟨I1.kIn, ?_⟩) he hpl
  have hv : Vals (vs ++ []) us := by rw [List.append_nil]; exact r
  have hl : (us ++ []).length = ps.length := by rw [List.append_nil, ← hv.length]; exact F.len _ _ _ _ q
  have hb2 := hb s1 us I1.kIn hl
  rw [List.append_nil] at hb2
  refine wpAny_call (codeAny_mono (F.run X.A X.stack s1 H1 ⟨us, []⟩ us (vs ++ []) Q E (hr.mono hj) gd I1.env0 hb2 hv q) fun r s' hq => ?_)
  match r, hq with
  | .error e, hq => exact hx pins σ H1 s1 e s' I1 hq
  | .ok (.ret u), hq => exact I1.after hq
  | .ok .next, hq => exact False.elim hq
  | .ok .brk, hq => exact False.elim hq
  | .ok .cont, hq => exact False.elim hq
end
/-! ### the end of a law whose def is of this kind -/
section
variable {P : Program} {w : World} {K : PySem.W.Frag} {mg mb : Str → Option Value} {k : Nat} {fa a : Addr} {fd : FuncData} {x : Str} {sp : Sp} {sT : Shared} {vs : List Value} {ns : List Int}
abbrev lawEnd (sT : Shared) : Result → Shared → Prop := fun r s' => r = .ok (.ret (.bool true)) ∧ OldK sT.heap s'.heap ∧ s'.os = sT.os ∧ AllBare s'.gens
/-- what a call's end says of the old objects -/
theorem end_of {H : Hp} (hO : Only H) (hok : HOk P w H sT.heap) {r : Result} {s' : Shared} (h : CR CX0 [] P w H sT (fun v _ => v = .bl true) (fun _ _ _ => False) r s') : lawEnd sT r s' := by
  match r, h with
  | .error e, h => exact False.elim h
  | .ok .next, h => exact False.elim h
  | .ok .brk, h => exact False.elim h
  | .ok .cont, h => exact False.elim h
  | .ok (.ret u), ⟨v, HE, os, bare, un, hokE, rel, q⟩ =>
    have q' : v = .bl true := q
    subst q'
    obtain rfl : u = Value.bool true := rel
    refine ⟨rfl, OldK.of_keep fun b o e => ?_, os, bare⟩
    rcases hO b with z | ⟨ob, xs, z⟩
    · exact un.keep b o e z (fun m => nomatch (show b ∈ ([] : List Addr) from m)) (fun m => nomatch m)
    · obtain ⟨f1, _⟩ := hok b _ z
      obtain ⟨f2, _⟩ := hokE b _ (un.frzs b ob _ z)
      obtain rfl : o = ob := Option.some.inj (e.symm.trans f1)
      exact f2
theorem lawG (KX : K.In sT.heap) (hns : sT.heap.Ns mainGlobals mg) (hb : sT.heap.Ns builtinsNs mb) (hbb : ∀ x : Str, x ≠ "__name__" → mb x = bootBuiltins x) (hlim : sT.heap.NoLimit) (hg : sT.gens = #[])
    (ha : sT.heap.get? a = some { cls := .type "list", data := .seq vs.toArray }) (hi : IntsAre vs ns) (hl : ns.length ≤ sizeLine) (hr : Room k callerA)
    (F : ∀ base : Heap, K.In base → base.Ns mainGlobals mg → FnG P w K mg base k fa fd [x] sp) (hbind : ∀ (s : Shared) (u : Value), BindsTo s fd ⟨[u], []⟩ [(x, u)])
    (hsp : ∀ H : Hp, Only H → SqL K H a (ns.map V.int) → sp [.ref a] H (fun v _ => v = .bl true) fun _ _ _ => False) :
    codeAny (model P w) callerA (.call (.ref fa) ⟨[.ref a], []⟩) (lawEnd sT) sT := by
  have rv := vals_ints hi
  have main : ∀ H : Hp, Only H → SqL K H a (ns.map V.int) → HOk P w H sT.heap → (∀ b, H b ≠ none → b = a ∧ K.lookup a = none) → codeAny (model P w) callerA (.call (.ref fa) ⟨[.ref a], []⟩) (lawEnd sT) sT := by
    intro H hO hS hok hA
    have free : ∀ {b : Addr}, (b = a → K.lookup a = none → False) → H b = none := fun {b} hn => by
      cases q : H b with
      | none => rfl
      | some u =>
        obtain ⟨h1, h2⟩ := hA b (by rw [q]; exact fun z => nomatch z)
        exact (hn h1 h2).elim
    have noDict : ∀ {b : Addr} {o : Obj} {es : Array DictEntry} {ep : Nat}, sT.heap.get? b = some o → o.data = .dict es ep → H b = none := fun {b o es ep} e d => free fun h1 _ => by
      rw [h1, ha] at e
      obtain rfl := Option.some.inj e
      exact nomatch d
    have nsB : ∀ {b : Addr} {m : Str → Option Value}, sT.heap.Ns b m → (hidT sT.heap H).Ns b m := fun ⟨o, es, ep, e, d, r⟩ => ⟨o, es, ep, hidT_get e (noDict e d), d, r⟩
    have kB : K.In (hidT sT.heap H) := fun b o e => hidT_get (KX b o e) (free fun h1 h2 => by rw [← h1, e] at h2; cases h2)
    obtain ⟨mc, l1, l2⟩ := hlim
    have e0 : Env0 P w K mg (hidT sT.heap H) callerA [] sT H :=
      { frames := rfl, mod := ⟨kB, nsB hns, ⟨mb, nsB hb, hbb⟩, ⟨mc, nsB l1, l2⟩⟩, bs := fun b o e => of_hidT e, bsz := Nat.le_of_eq (hidT_size _ _), funs := trivial,
        frf := (fun b m => nomatch (show b ∈ ([] : List Addr) from m)), hok := hok, bare := .of_eq hg }
    exact codeAny_mono ((F _ kB (nsB hns)).run callerA [] sT H ⟨[.ref a], []⟩ [.ref a] [.ref a] _ _ hr rfl e0 (hbind sT (.ref a)) (.cons rfl .nil) (hsp H hO hS)) fun r s' h => end_of hO hok h
  cases hk : K.lookup a with
  | some o =>
    have e := KX a o hk
    rw [ha] at e
    obtain rfl := Option.some.inj e
    refine main (fun _ => none) (fun _ => .inl rfl) (.inr ⟨_, vs.toArray, _, hk, rfl, rfl, rfl, ?_, ?_⟩) (fun b u z => nomatch (show (none : Option HO) = some u from z)) (fun b z => absurd rfl z)
    · rw [List.size_toArray, hi.length]; exact hl
    · exact rv
  | none =>
    let oS : Obj := { cls := .type "list", data := .seq vs.toArray }
    let HS : Hp := upd (fun _ => none) a (.frz oS (.lst (ns.map V.int)))
    have h0 : ∀ b, b ≠ a → HS b = none := fun b hb => upd_ne hb
    have h1 : HS a = some (.frz oS (.lst (ns.map V.int))) := upd_same
    refine main HS (fun b => ?_) (.inl (.inr ⟨oS, h1⟩)) (fun b u z => ?_) (fun b z => ⟨Classical.byContradiction fun q => z (h0 b q), hk⟩)
    · by_cases q : b = a
      · exact .inr ⟨oS, _, by rw [q]; exact h1⟩
      · exact .inl (h0 b q)
    · by_cases q : b = a
      · rw [q, h1] at z
        obtain rfl := Option.some.inj z
        rw [q]
        exact ⟨ha, by rw [List.length_map]; exact hl, vs, _, rv, ha⟩
      · rw [h0 b q] at z; cases z
end
theorem walkG {l : PySem.W.OpenLaw} {n k : Nat} {q : Program} {loose : List Str} {XP : (Str → Option Value) → Heap → Prop} {YP : World → Heap → Prop} {d : DefRec} {K : Params → PySem.W.Frag} {sp : World → Sp} {x : Str}
    (hn : l.most = some n) (hn2 : n ≤ sizeLine) (hdf : d.params.defaults = []) (hr : Room k callerA) (hY : ∀ (w : World) (h : Heap), YP w h → (K w.params).In h)
    (F : ∀ (w : World) (mg : Str → Option Value) (fa : Addr) (h : Heap), (K w.params).In h → h.Ns mainGlobals mg → mg d.name = some (.ref fa) → ∃ fd : FuncData, (∀ (s : Shared) (u : Value), BindsTo s fd ⟨[u], []⟩ [(x, u)]) ∧
        ∀ base : Heap, (K w.params).In base → base.Ns mainGlobals mg → FnG l.prog w (K w.params) mg base k fa fd [x] (sp w))
    (hsp : ∀ (w : World) (H : Hp) (a : Addr) (ns : List Int), ns.length ≤ n → (∀ z ∈ ns, Builtin.Int.intBits z ≤ 1048576) → Only H → SqL (K w.params) H a (ns.map V.int) → sp w [.ref a] H (fun v _ => v = .bl true) fun _ _ _ => False) :
    PySem.W.WalkO q loose XP YP l.row.toRowW d [] (fun f vs => PySem.call f vs) :=
  Att.attach_callB hn hdf fun w s0 sT mg mb fa o pm cd doc a vs ns G Y ho hd hcd hmg hobj hints hlen hbits hg => by
    obtain ⟨fd, hb, hF⟩ := F w mg fa _ (hY w _ Y) G.T.g hmg
    exact lawG (hY w _ Y) G.T.g G.T.b G.T.builtins G.T.nolimit hg hobj hints (Nat.le_trans hlen hn2) hr hF hb fun H hO hS => hsp w H a ns hlen hbits hO hS
end Oa
/-! sorted of rows of ints -/
namespace Oa
open PySem PySem.Spec PyProof.Rows L2 Evl
/-- rows, sorted as lists are -/
def sortRows (xss : List (List Int)) : List (List Int) := xss.mergeSort (PySem.W.dataLe false dRow)
theorem sortRows_same {xss : List (List Int)} (h : xss.Pairwise fun x y => ¬ y < x) : sortRows xss = xss := by
  refine List.mergeSort_of_pairwise (h.imp fun {x y} q => ?_)
  rw [PySem.W.dataLe_eq]
  show (!PySem.W.dataLt (dRow y) (dRow x)) = true
  have e : PySem.W.dataLt (dRow y) (dRow x) = decide (y < x) := PySem.W.dataLt_ints y x
  rw [e, decide_eq_false q]
  rfl
theorem sortRows_perm (xss : List (List Int)) : (sortRows xss).Perm xss := List.mergeSort_perm _ _
def rSortedD (K : PySem.W.Frag) : List V → Hp → VK → Prop := fun vs H Q => ∃ (a : Addr) (xs : List V) (xss : List (List Int)), vs = [.ref a] ∧ SqL K H a xs ∧ DpAll K H xs (dRows xss) ∧
  ∀ p ys, H p = none → DpAll K H ys (dRows (sortRows xss)) → Q (.ref p) (upd H p (.lst ys))
theorem each_of {K : PySem.W.Frag} {H : Hp} : ∀ {xs : List V} {its : List Value} {xss : List (List Int)}, Vals xs its → DpAll K H xs (dRows xss) → PySem.W.EachIs (fun (v : Value) (b : List Int) => ∃ x : V, RelV x v ∧ Dp K H x (dRow b)) its xss
  | [], [], [], _, _ => .nil
  | x :: xs, v :: its, b :: xss, .cons r rr, .cons d dd => .cons ⟨x, r, d⟩ (each_of rr dd)
theorem of_each {K : PySem.W.Frag} {H : Hp} : ∀ {its : List Value} {xss : List (List Int)}, PySem.W.EachIs (fun (v : Value) (b : List Int) => ∃ x : V, RelV x v ∧ Dp K H x (dRow b)) its xss → ∃ xs : List V, Vals xs its ∧ DpAll K H xs (dRows xss)
  | [], [], _ => ⟨[], .nil, .nil⟩
  | v :: its, b :: xss, .cons ⟨x, r, d⟩ h => by
    obtain ⟨xs, h1, h2⟩ := of_each h
    exact ⟨x :: xs, .cons r h1, .cons d h2⟩
theorem call_sortedD {X : Cx} (hu : X.A.units + 64 < cLine) : CallR X (.builtin "sorted") (rSortedD X.K) := by
  intro pins s σ H vs us Q I r h
  obtain ⟨a, xs, xss, rfl, hs, hd, q⟩ := h
  obtain ⟨u, rfl, ru⟩ := vals1 r
  obtain rfl : u = Value.ref a := ru
  obtain ⟨its, rv, hl, hz⟩ := I.list hs
  have e := each_of rv hd
  have hlen : xss.length = xs.length := by rw [dpA_len hd, dRows_len]
  refine PySem.W.sorted_data (enc := dRow) hl.isList e (e.mono fun v b ⟨x, r, d⟩ => Dp.reads I _ x v d r) (PySem.W.AllAlike.of fun b c => PySem.W.alike_ints b c) (PySem.W.Sortable.others fun b => ⟨(fun q => nomatch q), (fun _ q => nomatch q)⟩) (by omega) (fun b _ => ?_) fun out ho he => ?_
  · have : (dRow b).depth = 1 := by simp only [dRow, PyData.depth, depth_ints]
    rw [this]; omega
  · obtain ⟨ys, h1, h2⟩ := of_each he
    obtain ⟨n, hn⟩ := sortedAll_at s.heap its out.toArray
    refine ⟨.ref _, upd H _ (.lst ys), I.laid (t' := s.toks) (fun b o e => sortedAll_old e) (Nat.le_succ _) ⟨?_, out, n, h1, hn⟩, rfl, q _ ys (I.hok.fresh (Nat.le_succ _)) h2⟩
    rw [h1.length, ho, hlen]; exact hz
section
variable {K : PySem.W.Frag} {σ : L2.St} {H H' : Hp} {ta tb tc te tx tl : TE} {xss : List (List Int)}
theorem edn_sorted {a : Addr} {xs : List V} (h : Ev te σ H (.ref a)) (hs : SqL K H a xs) (hd : DpAll K H xs (dRows xss)) : EvDN K (tCB (rSortedD K) (tCons te tNil)) σ H (dRows (sortRows xss)) := fun H1 e Q q =>
  h H1 e _ fun H2 e2 => ⟨a, xs, xss, rfl, ex_l (e.trans e2) hs, dpA_mono (e.trans e2) hd, fun p ys np hy => q p ys _ (fresh_back e2 np) (e2.trans (Ex.new np)) upd_same (dpA_mono (Ex.new np) hy)⟩
/-- data that can be shown -/
structure Shw (d : PyData) : Prop where
  s : d.showable = true
  n : d.hasDict = false
  p : d.depth ≤ 40
  z : d.shown.length ≤ sizeLine
/-- str of data -/
theorem ev_strL {ds : List PyData} (h : EvD K te σ H (.list ds)) (w : Shw (.list ds)) : Ev (tCB (rStrD K) (tCons te tNil)) σ H (.str (PyData.list ds).shown) := fun H1 e Q q =>
  h H1 e _ fun v H2 e2 hv => by
    obtain ⟨a, xs, rfl, _, _⟩ := dp_unlist hv
    exact ⟨a, _, rfl, hv, w.s, w.n, w.p, w.z, q H2 e2⟩
/-- x = sorted(a new list of ints) -/
theorem q_asgSorted {i : Nat} {ns : List Int} {D : Ends} {tz : TS} (h : EvL te σ H (ns.map V.int)) (k : ∀ (ns' : List Int) p H1, ns'.Perm ns → ns'.Pairwise (· ≤ ·) → H p = none → Ex H H1 → H1 p = some (.lst (ns'.map V.int)) → tz D (σ.set i (some (.ref p))) H1) :
    tSeq (tAsg (tCB (rSortedI K) (tCons te tNil)) (gName i)) tz D σ H :=
  h H (Ex.refl _) _ fun a H1 na e1 ha => ⟨a, ns, rfl, sq_of ha, fun ns' p pm pw np => k ns' p _ pm pw (fresh_back e1 np) (e1.trans (Ex.new np)) upd_same⟩
/-- any([.. for x in a list of data]), each False -/
theorem ev_anyD {ds : List PyData} {j : Nat} {vs : List Nat} (h : EvD K tl σ H (.list ds)) (hz : ds.length ≤ 40000) (hw : ∀ x, wipe ((wipe σ vs).set j (some x)) vs = wipe σ vs)
    (he : ∀ (i : Nat) (x : V) (d : PyData) H1, Ex H H1 → ds[i]? = some d → Dp K H1 x d → Ev te ((wipe σ vs).set j (some x)) H1 (.bl false)) : Ev (tCB (rAny K) (tCons (tLc (iList K tl) (gName j) tYes te vs) tNil)) σ H (.bl false) :=
  ev_is (ev_any (bs := List.replicate ds.length false) (el_is (el_lcD (fun _ => true) (fun _ => .bl false) h hz hw (fun _ _ _ _ _ _ _ => et_yes) (fun i x d H1 e hi hd _ => he i x d H1 e hi hd)) (by rw [given_all, List.map_const', List.length_range, List.map_replicate]))) (by
    congr 1
    rw [List.any_eq_false]
    intro x hx
    rw [List.eq_of_mem_replicate hx]
    decide)
end
def Small (p : List Int) : Prop := ∀ x ∈ p, 0 ≤ x ∧ x ≤ 40
theorem small_text : ∀ k : Fin 41, (PyData.int (((k : Nat) : Int))).shown.length ≤ 8 ∧ (PyData.int (((k : Nat) : Int))).showable = true := by decide +kernel
theorem small_int {x : Int} (h0 : 0 ≤ x) (h1 : x ≤ 40) : (PyData.int x).shown.length ≤ 8 ∧ (PyData.int x).showable = true := by
  have := small_text ⟨x.toNat, by omega⟩
  have e : (((⟨x.toNat, by omega⟩ : Fin 41) : Nat) : Int) = x := by show ((x.toNat : Nat) : Int) = x; omega
  rw [e] at this
  exact this
theorem ints_shw : ∀ (p : List Int), Small p → PyData.showableAll (p.map .int) = true ∧ PyData.hasDictAll (p.map .int) = false ∧ PyData.leavesShortAll 8 (p.map .int) = true ∧ PyData.bulkAll (p.map .int) = p.length
  | [], _ => by simp [PyData.showableAll, PyData.hasDictAll, PyData.leavesShortAll, PyData.bulkAll]
  | x :: r, h => by
    obtain ⟨h1, h2, h3, h4⟩ := ints_shw r fun y hy => h y (List.mem_cons_of_mem _ hy)
    obtain ⟨k1, k2⟩ := small_int (h x (List.mem_cons_self ..)).1 (h x (List.mem_cons_self ..)).2
    simp only [List.map_cons, PyData.showableAll, PyData.hasDictAll, PyData.leavesShortAll, PyData.bulkAll, h1, h2, h3, h4, k2, PyData.hasDict, PyData.leavesShort, PyData.bulk, decide_eq_true k1, Bool.and_self, Bool.or_self, List.length_cons, true_and]
    omega
theorem row_shw {p : List Int} (h : Small p) (hl : p.length ≤ 10000) : Shw (dRow p) := by
  obtain ⟨h1, h2, h3, h4⟩ := ints_shw p h
  refine ⟨by simp only [dRow, PyData.showable, h1], by simp only [dRow, PyData.hasDict, h2], by simp only [dRow, PyData.depth, depth_ints]; omega, ?_⟩
  have hb := PyData.shown_le_bulk 8 (by decide) (dRow p) (by simp only [dRow, PyData.leavesShort, h3])
  have hk : (dRow p).bulk = p.length := by simp only [dRow, PyData.bulk, h4]
  have hz : sizeLine = 16777216 := by decide
  rw [hk] at hb
  omega
theorem rows_shw : ∀ (xss : List (List Int)), (∀ p ∈ xss, Small p ∧ p.length ≤ 20) → PyData.showableAll (dRows xss) = true ∧ PyData.hasDictAll (dRows xss) = false ∧ PyData.leavesShortAll 8 (dRows xss) = true ∧ PyData.bulkAll (dRows xss) ≤ 21 * xss.length
  | [], _ => by simp [dRows, PyData.showableAll, PyData.hasDictAll, PyData.leavesShortAll, PyData.bulkAll]
  | p :: r, h => by
    obtain ⟨h1, h2, h3, h4⟩ := rows_shw r fun y hy => h y (List.mem_cons_of_mem _ hy)
    obtain ⟨hs, hl⟩ := h p (List.mem_cons_self ..)
    obtain ⟨k1, k2, k3, k4⟩ := ints_shw p hs
    have e : dRows (p :: r) = .list (p.map .int) :: dRows r := rfl
    simp only [e, PyData.showableAll, PyData.hasDictAll, PyData.leavesShortAll, PyData.bulkAll, h1, h2, h3, PyData.showable, PyData.hasDict, PyData.leavesShort, PyData.bulk, k1, k2, k3, k4, Bool.and_self, Bool.or_self, List.length_cons, true_and]
    omega
theorem rowsL_shw {xss : List (List Int)} (h : ∀ p ∈ xss, Small p ∧ p.length ≤ 20) (hl : xss.length ≤ 10000) : Shw (.list (dRows xss)) := by
  obtain ⟨h1, h2, h3, h4⟩ := rows_shw xss h
  refine ⟨by simp only [PyData.showable, h1], by simp only [PyData.hasDict, h2], by have := depth_rows xss; simp only [PyData.depth]; omega, ?_⟩
  have hb := PyData.shown_le_bulk 8 (by decide) (.list (dRows xss)) (by simp only [PyData.leavesShort, h3])
  have hk : (PyData.list (dRows xss)).bulk ≤ 21 * xss.length := by simp only [PyData.bulk]; exact h4
  have hz : sizeLine = 16777216 := by decide
  omega
end Oa
/-! the number of a pattern -/
namespace Oa
theorem getD_at {l : List Int} {i : Nat} (h : i < l.length) : l[i]? = some (l.getD i 0) := by
  rw [List.getD_eq_getElem?_getD, List.getElem?_eq_getElem h]; rfl
theorem take_next {l : List Int} {i : Nat} (h : i < l.length) : l.take (i + 1) = l.take i ++ [l.getD i 0] := by
  rw [List.take_add_one, getD_at h]; rfl
theorem drop_next {l : List Int} {i : Nat} (h : i < l.length) : l.drop i = l.getD i 0 :: l.drop (i + 1) := by
  rw [List.drop_eq_getElem_cons h, List.getD_eq_getElem?_getD, List.getElem?_eq_getElem h]; rfl
theorem countsF_take (p : List Int) : ∀ i, i ≤ p.length → countsF (p.take i) = (countsF p).take i := by
  intro i hi
  unfold countsF
  rw [← List.map_take, List.length_take, Nat.min_eq_left hi]
  have e : (List.range p.length).take i = List.range i := by rw [List.take_range, Nat.min_eq_left hi]
  rw [e]
  apply List.map_congr_left
  intro j hj
  have hj' := List.mem_range.mp hj
  rw [List.take_take, Nat.min_eq_left (by omega)]
  congr 2
  rw [List.getD_eq_getElem?_getD, List.getD_eq_getElem?_getD, List.getElem?_take, if_pos hj']
theorem countsF_getD {p : List Int} {i : Nat} (h : i < p.length) : (countsF p).getD i 0 = (((p.take i).count (p.getD i 0) : Nat) : Int) := by
  rw [List.getD_eq_getElem?_getD, countsF_get h]; rfl
theorem IsPat.take {p : List Int} (h : IsPat p) : ∀ k i, i + k = p.length → IsPat (p.take i)
  | 0, i, e => by rw [List.take_of_length_le (by omega)]; exact h
  | k + 1, i, e => by
    have := IsPat.take h k (i + 1) (by omega)
    rw [take_next (by omega)] at this
    exact this.unsnoc.1
theorem IsPat.take' {p : List Int} (h : IsPat p) {i : Nat} (hi : i ≤ p.length) : IsPat (p.take i) := h.take (p.length - i) i (by omega)
/-- the sign at a place is one of those that can stand there -/
theorem IsPat.some_at {p : List Int} (h : IsPat p) {i : Nat} (hi : i < p.length) : p.getD i 0 ∈ someF (p.take i) ((countsF p).getD i 0) := by
  have h1 := h.take' (i := i + 1) (by omega)
  rw [take_next hi] at h1
  obtain ⟨h2, h3, h4⟩ := h1.unsnoc
  rw [countsF_getD hi]
  refine some_iff h2 (by omega) rfl ?_
  by_cases e : p.getD i 0 = (knownF (p.take i) : Int)
  · exact .inr e
  · exact .inl ((h2.mem _).mpr ⟨h3, by omega⟩)
def digit (p : List Int) (i : Nat) : Nat := (someF (p.take i) ((countsF p).getD i 0)).idxOf (p.getD i 0)
def numFrom (p : List Int) : Nat → Nat → Int
  | _, 0 => 0
  | i, n + 1 => (digit p i : Int) * prodFrom (countsF p) (i + 1) n + numFrom p (i + 1) n
def numberF (p : List Int) : Int := numFrom p 0 p.length
theorem some_left {p : List Int} (h : IsPat p) {i : Nat} (hi : i < p.length) : ((someF (p.take i) ((countsF p).getD i 0)).length : Int) = leftF (countsF p) i :=
  some_len (countsF_take p i (by omega)) (good_counts p i (by rw [countsF_len]; exact hi))
theorem digit_lt {p : List Int} (h : IsPat p) {i : Nat} (hi : i < p.length) : (digit p i : Int) < leftF (countsF p) i := by
  rw [← some_left h hi]
  have := List.idxOf_lt_length_of_mem (h.some_at hi)
  unfold digit
  omega
theorem numFrom_bd {p : List Int} (h : IsPat p) : ∀ (n i : Nat), i + n = p.length → 0 ≤ numFrom p i n ∧ numFrom p i n < prodFrom (countsF p) i n
  | 0, i, e => by show 0 ≤ (0 : Int) ∧ (0 : Int) < 1; decide
  | n + 1, i, e => by
    obtain ⟨h1, h2⟩ := numFrom_bd h n (i + 1) (by omega)
    have hd := digit_lt h (i := i) (by omega)
    have hp : 0 < prodFrom (countsF p) (i + 1) n := prodFrom_pos (good_counts p) n (i + 1) (by rw [countsF_len]; omega)
    show 0 ≤ (digit p i : Int) * prodFrom (countsF p) (i + 1) n + numFrom p (i + 1) n ∧ (digit p i : Int) * prodFrom (countsF p) (i + 1) n + numFrom p (i + 1) n < leftF (countsF p) i * prodFrom (countsF p) (i + 1) n
    have a1 : 0 ≤ (digit p i : Int) * prodFrom (countsF p) (i + 1) n := Int.mul_nonneg (by omega) (by omega)
    have a2 : ((digit p i : Int) + 1) * prodFrom (countsF p) (i + 1) n ≤ leftF (countsF p) i * prodFrom (countsF p) (i + 1) n := Int.mul_le_mul_of_nonneg_right (by omega) (by omega)
    rw [Int.add_mul, Int.one_mul] at a2
    omega
theorem numberF_bd {p : List Int} (h : IsPat p) : 0 ≤ numberF p ∧ numberF p < manyF (countsF p) := by
  have := numFrom_bd h p.length 0 (by omega)
  unfold numberF manyF
  rw [countsF_len]
  exact this
theorem idx_getD {l : List Int} {s : Int} (h : s ∈ l) : l.getD (l.idxOf s) 0 = s := by
  induction l with
  | nil => cases h
  | cons a r ih =>
    rw [List.idxOf_cons]
    by_cases e : a = s
    · subst e; simp
    · have q : (a == s) = false := by simpa using e
      rw [q]
      show (a :: r).getD (r.idxOf s + 1) 0 = s
      rw [List.getD_cons_succ]
      exact ih ((List.mem_cons.mp h).resolve_left fun z => e z.symm)
/-- the pattern of its number is itself -/
theorem patGo_num {p : List Int} (h : IsPat p) : ∀ (n i : Nat), i + n = p.length → patGo (p.take i) ((countsF p).drop i) (prodFrom (countsF p) i n) (numFrom p i n) = p
  | 0, i, e => by
    rw [List.drop_of_length_le (by rw [countsF_len]; omega)]
    show p.take i = p
    exact List.take_of_length_le (by omega)
  | n + 1, i, e => by
    have hi : i < p.length := by omega
    obtain ⟨b1, b2⟩ := numFrom_bd h n (i + 1) (by omega)
    have hb := numFrom_bd h (n + 1) i e
    obtain ⟨a1, a2, a3, a4, a5⟩ := pat_turn (good_counts p) (h.take' (i := i) (by omega)) (countsF_take p i (by omega)) (n := n) (by rw [countsF_len]; omega) hb.1 hb.2
    rw [drop_next (by rw [countsF_len]; exact hi)]
    unfold patGo
    rw [a1]
    have e1 : numFrom p i (n + 1) / prodFrom (countsF p) (i + 1) n = (digit p i : Int) := by
      show ((digit p i : Int) * prodFrom (countsF p) (i + 1) n + numFrom p (i + 1) n) / _ = _
      rw [Int.add_comm, Int.add_mul_ediv_right _ _ (by omega), Int.ediv_eq_zero_of_lt b1 b2, Int.zero_add]
    have e2 : numFrom p i (n + 1) % prodFrom (countsF p) (i + 1) n = numFrom p (i + 1) n := by
      show ((digit p i : Int) * prodFrom (countsF p) (i + 1) n + numFrom p (i + 1) n) % _ = _
      rw [Int.add_comm, Int.add_mul_emod_self_right, Int.emod_eq_of_lt b1 b2]
    rw [e1, e2, Int.toNat_natCast]
    have e3 : (someF (p.take i) ((countsF p).getD i 0)).getD (digit p i) 0 = p.getD i 0 := idx_getD (h.some_at hi)
    rw [e3, ← take_next hi]
    exact patGo_num h n (i + 1) (by omega)
theorem pat_number {p : List Int} (h : IsPat p) : patF (countsF p) (numberF p) = p := by
  have := patGo_num h p.length 0 (by omega)
  unfold patF manyF
  rw [countsF_len]
  exact this
/-! ### the number of the pattern of a number -/
theorem range_nodup (n : Nat) : ((List.range n).map fun i : Nat => (i : Int)).Nodup := by
  refine List.Pairwise.map _ (fun a b hab q => hab (by omega)) List.nodup_range
theorem some_nodup {p : List Int} (h : IsPat p) (t : Int) : (someF p t).Nodup := by
  rw [some_prog h]
  split
  · exact (range_nodup _).filter _
  · simp
theorem idx_of_get {l : List Int} (hn : l.Nodup) {k : Nat} (hk : k < l.length) : l.idxOf (l.getD k 0) = k := by
  induction l generalizing k with
  | nil => simp at hk
  | cons a r ih =>
    obtain ⟨h1, h2⟩ := List.nodup_cons.mp hn
    cases k with
    | zero => simp
    | succ k =>
      have hk' : k < r.length := by simpa using hk
      rw [List.getD_cons_succ, List.idxOf_cons]
      have : (a == r.getD k 0) = false := by
        rw [beq_eq_false_iff_ne]
        intro q
        exact h1 (q ▸ getD_mem hk')
      rw [this]
      show r.idxOf _ + 1 = k + 1
      rw [ih h2 hk']
theorem patGo_pre : ∀ (rest found : List Int) (m x : Int), ∃ more, patGo found rest m x = found ++ more ∧ more.length = rest.length
  | [], found, m, x => ⟨[], (List.append_nil _).symm, rfl⟩
  | t :: r, found, m, x => by
    unfold patGo
    obtain ⟨more, e, hl⟩ := patGo_pre r (found ++ [(someF found t).getD (x / (m / ((someF found t).length : Int))).toNat 0]) (m / ((someF found t).length : Int)) (x % (m / ((someF found t).length : Int)))
    exact ⟨(someF found t).getD (x / (m / ((someF found t).length : Int))).toNat 0 :: more, by rw [e, List.append_assoc]; rfl, by rw [List.length_cons, hl, List.length_cons]⟩
theorem num_patGo {row : List Int} (hg : Good row) : ∀ (n i : Nat) (found : List Int) (number : Int), i + n = row.length → IsPat found → countsF found = row.take i → 0 ≤ number → number < prodFrom row i n →
    numFrom (patGo found (row.drop i) (prodFrom row i n) number) i n = number
  | 0, i, found, number, hn, hp, hc, h0, h1 => by
    have h1' : number < 1 := h1
    show (0 : Int) = number
    omega
  | n + 1, i, found, number, hn, hp, hc, h0, h1 => by
    have hi : i < row.length := by omega
    obtain ⟨a1, a2, a3, a4, a5⟩ := pat_turn hg hp hc hn h0 h1
    have hk : (number / prodFrom row (i + 1) n).toNat < (someF found (row.getD i 0)).length := by omega
    obtain ⟨b1, b2⟩ := pat_next hg hp hc hi (getD_mem hk)
    have hfl : found.length = i := by rw [← countsF_len, hc, List.length_take]; omega
    have eP : patGo found (row.drop i) (prodFrom row i (n + 1)) number = patGo (found ++ [(someF found (row.getD i 0)).getD (number / prodFrom row (i + 1) n).toNat 0]) (row.drop (i + 1)) (prodFrom row (i + 1) n) (number % prodFrom row (i + 1) n) := by
      rw [drop_next hi]
      conv => lhs; unfold patGo
      rw [a1]
    have hok := (patGo_ok hg (n + 1) i found number hn hp hc h0 h1).2
    have ih := num_patGo hg n (i + 1) _ (number % prodFrom row (i + 1) n) (by omega) b1 b2 (Int.emod_nonneg _ (by omega)) (Int.emod_lt_of_pos _ a5)
    rw [eP] at hok ⊢
    obtain ⟨more, em, _⟩ := patGo_pre (row.drop (i + 1)) (found ++ [(someF found (row.getD i 0)).getD (number / prodFrom row (i + 1) n).toNat 0]) (prodFrom row (i + 1) n) (number % prodFrom row (i + 1) n)
    show (digit _ i : Int) * prodFrom (countsF _) (i + 1) n + numFrom _ (i + 1) n = number
    rw [ih, hok]
    have ed : digit (patGo (found ++ [(someF found (row.getD i 0)).getD (number / prodFrom row (i + 1) n).toNat 0]) (row.drop (i + 1)) (prodFrom row (i + 1) n) (number % prodFrom row (i + 1) n)) i = (number / prodFrom row (i + 1) n).toNat := by
      unfold digit
      rw [hok, em]
      have e1 : (found ++ [(someF found (row.getD i 0)).getD (number / prodFrom row (i + 1) n).toNat 0] ++ more).take i = found := by
        rw [List.append_assoc, ← hfl, List.take_left]
      have e2 : (found ++ [(someF found (row.getD i 0)).getD (number / prodFrom row (i + 1) n).toNat 0] ++ more).getD i 0 = (someF found (row.getD i 0)).getD (number / prodFrom row (i + 1) n).toNat 0 := by
        rw [List.append_assoc, ← hfl, List.getD_eq_getElem?_getD, List.getElem?_append_right (Nat.le_refl _), Nat.sub_self]
        rfl
      rw [e1, e2]
      exact idx_of_get (some_nodup hp _) hk
    rw [ed]
    have := Int.mul_ediv_add_emod number (prodFrom row (i + 1) n)
    rw [Int.toNat_of_nonneg a2, Int.mul_comm]
    omega
theorem number_pat {row : List Int} (hg : Good row) {m : Int} (h0 : 0 ≤ m) (h1 : m < manyF row) : numberF (patF row m) = m := by
  have := num_patGo hg row.length 0 [] m (by omega) isPat_nil rfl h0 h1
  have hl : (patF row m).length = row.length := by rw [← countsF_len, (patF_ok hg h0 h1).2]
  unfold numberF
  rw [hl]
  exact this
/-! ### Horner's way, as number_in goes -/
def horn (p : List Int) : Nat → Int
  | 0 => 0
  | i + 1 => horn p i * leftF (countsF p) i + (digit p i : Int)
theorem horn_num {p : List Int} : ∀ (n i : Nat), i + n = p.length → horn p i * prodFrom (countsF p) i n + numFrom p i n = horn p p.length
  | 0, i, e => by
    have : i = p.length := by omega
    rw [this]
    show horn p p.length * 1 + 0 = _
    omega
  | n + 1, i, e => by
    rw [← horn_num n (i + 1) (by omega)]
    show horn p i * (leftF (countsF p) i * prodFrom (countsF p) (i + 1) n) + ((digit p i : Int) * prodFrom (countsF p) (i + 1) n + numFrom p (i + 1) n) = (horn p i * leftF (countsF p) i + (digit p i : Int)) * prodFrom (countsF p) (i + 1) n + numFrom p (i + 1) n
    rw [Int.add_mul, Int.mul_assoc, Int.add_assoc]
theorem horn_all (p : List Int) : horn p p.length = numberF p := by
  have := horn_num (p := p) p.length 0 (by omega)
  rw [← this]
  show (0 : Int) * _ + numberF p = numberF p
  rw [Int.zero_mul, Int.zero_add]
/-- a new sign -/
theorem digit_new {p : List Int} (h : IsPat p) {i : Nat} (hi : i < p.length) (h0 : (countsF p).getD i 0 ≤ 0) : leftF (countsF p) i = 1 ∧ digit p i = 0 := by
  have hs := h.some_at hi
  have e : someF (p.take i) ((countsF p).getD i 0) = [(knownF (p.take i) : Int)] := by unfold someF; rw [if_neg (by omega)]
  constructor
  · rw [← some_left h hi, e]; rfl
  · unfold digit
    rw [e] at hs ⊢
    rw [List.mem_singleton.mp hs]
    simp
/-! ### patterns of patterns -/
theorem firsts_map {f : Int → Int} : ∀ (row acc : List Int), (∀ x ∈ acc ++ row, ∀ y ∈ acc ++ row, f x = f y → x = y) → firsts (acc.map f) (row.map f) = (firsts acc row).map f
  | [], acc, _ => rfl
  | s :: r, acc, h => by
    show firsts (if f s ∈ acc.map f then acc.map f else acc.map f ++ [f s]) (r.map f) = (firsts (if s ∈ acc then acc else acc ++ [s]) r).map f
    have hm : f s ∈ acc.map f ↔ s ∈ acc := by
      constructor
      · intro q
        obtain ⟨x, hx, e⟩ := List.mem_map.mp q
        have := h x (List.mem_append_left _ hx) s (List.mem_append_right _ (List.mem_cons_self ..)) e
        rw [← this]; exact hx
      · exact fun q => List.mem_map.mpr ⟨s, q, rfl⟩
    by_cases e : s ∈ acc
    · rw [if_pos e, if_pos (hm.mpr e)]
      exact firsts_map r acc fun x hx y hy => h x (by rcases List.mem_append.mp hx with q | q; exact List.mem_append_left _ q; exact List.mem_append_right _ (List.mem_cons_of_mem _ q)) y (by rcases List.mem_append.mp hy with q | q; exact List.mem_append_left _ q; exact List.mem_append_right _ (List.mem_cons_of_mem _ q))
    · rw [if_neg e, if_neg (fun q => e (hm.mp q))]
      have e2 : acc.map f ++ [f s] = (acc ++ [s]).map f := by rw [List.map_append]; rfl
      rw [e2]
      refine firsts_map r (acc ++ [s]) fun x hx y hy => h x ?_ y ?_
      · rw [List.append_assoc] at hx; exact hx
      · rw [List.append_assoc] at hy; exact hy
theorem idx_map {f : Int → Int} {s : Int} : ∀ (l : List Int), (∀ x ∈ l, f x = f s → x = s) → (l.map f).idxOf (f s) = l.idxOf s
  | [], _ => rfl
  | a :: r, h => by
    rw [List.map_cons, List.idxOf_cons, List.idxOf_cons]
    have e : (f a == f s) = (a == s) := by
      by_cases q : a = s
      · subst q; simp
      · have q2 : ¬ f a = f s := fun z => q (h a (List.mem_cons_self ..) z)
        rw [beq_eq_false_iff_ne.mpr q, beq_eq_false_iff_ne.mpr q2]
    rw [e, idx_map r fun x hx => h x (List.mem_cons_of_mem _ hx)]
theorem patternF_map {f : Int → Int} {row : List Int} (h : ∀ x ∈ row, ∀ y ∈ row, f x = f y → x = y) : patternF (row.map f) = patternF row := by
  unfold patternF
  have e := firsts_map (f := f) row [] (by simpa using h)
  have e' : firsts [] (row.map f) = (firsts [] row).map f := e
  rw [e', List.map_map]
  apply List.map_congr_left
  intro s hs
  show (((List.map f (firsts [] row)).idxOf (f s) : Nat) : Int) = _
  rw [idx_map _ fun x hx q => h x (((firsts_mem [] row x).mp hx).resolve_left (by simp)) s hs q]
theorem idx_range {n : Nat} {s : Int} (h0 : 0 ≤ s) (h1 : s < (n : Int)) : (((List.range n).map fun i : Nat => (i : Int)).idxOf s : Int) = s := by
  have hl : s.toNat < ((List.range n).map fun i : Nat => (i : Int)).length := by rw [List.length_map, List.length_range]; omega
  have hg : ((List.range n).map fun i : Nat => (i : Int)).getD s.toNat 0 = s := by
    rw [List.getD_eq_getElem?_getD, List.getElem?_map, List.getElem?_range (by omega)]
    show ((s.toNat : Nat) : Int) = s
    omega
  have := idx_of_get (range_nodup n) hl
  rw [hg] at this
  rw [this]
  omega
theorem pattern_id {p : List Int} (h : IsPat p) : patternF p = p := by
  unfold patternF
  conv => rhs; rw [← List.map_id p]
  apply List.map_congr_left
  intro s hs
  have hm := (h.mem s).mp ((firsts_mem [] p s).mpr (.inr hs))
  have h' : firsts [] p = (List.range (knownF p)).map fun i : Nat => (i : Int) := h
  rw [h', idx_range hm.1 hm.2]
  rfl
theorem pattern_isPat (row : List Int) : IsPat (patternF row) := by
  refine snoc_ind (P := fun row => IsPat (patternF row)) isPat_nil ?_ row
  intro l x ih
  rw [patternF_snoc]
  have hk : knownF (patternF l) = (firsts [] l).length := by
    have e : firsts [] (patternF l) = (firsts [] l).map fun s => (((firsts [] l).idxOf s : Nat) : Int) := by
      have := firsts_map (f := fun s => (((firsts [] l).idxOf s : Nat) : Int)) l [] (by
        intro a ha b hb q
        simp only [List.nil_append] at ha hb
        exact idx_inj ((firsts_mem [] l a).mpr (.inr ha)) (by omega))
      exact this
    unfold knownF
    rw [e, List.length_map]
  refine (ih.snoc ?_).1
  rw [firsts_snoc]
  by_cases hx : x ∈ firsts [] l
  · rw [if_pos hx]
    left
    have hlt := List.idxOf_lt_length_of_mem hx
    exact (ih.mem _).mpr ⟨by omega, by rw [hk]; omega⟩
  · rw [if_neg hx]
    right
    rw [hk]
    congr 1
    rw [List.idxOf_append, if_neg hx]
    simp
end Oa
/-! all patterns with told counts, in order -/
namespace Oa
def allGo : List Int → Nat → List (List Int)
  | found, 0 => [found]
  | found, n + 1 => (nextOf found).flatMap fun p => allGo p n
theorem allGo_snoc : ∀ (n : Nat) (found : List Int), allGo found (n + 1) = (allGo found n).flatMap nextOf
  | 0, found => by
    show (nextOf found).flatMap (fun p => [p]) = [found].flatMap nextOf
    rw [List.flatMap_singleton]
    exact List.flatMap_singleton' _
  | n + 1, found => by
    show (nextOf found).flatMap (fun p => allGo p (n + 1)) = ((nextOf found).flatMap fun p => allGo p n).flatMap nextOf
    rw [List.flatMap_assoc]
    congr 1
    funext p
    exact allGo_snoc n p
theorem patterns_go : ∀ n : Nat, patternsF n = allGo [] n
  | 0 => rfl
  | n + 1 => by
    rw [allGo_snoc, ← patterns_go n]
    rfl
theorem allGo_pre : ∀ (n : Nat) (found q : List Int), q ∈ allGo found n → q.take found.length = found ∧ q.length = found.length + n
  | 0, found, q, h => by
    rw [List.mem_singleton.mp h]
    exact ⟨List.take_length, rfl⟩
  | n + 1, found, q, h => by
    obtain ⟨p, hp, hq⟩ := List.mem_flatMap.mp h
    obtain ⟨k, _, rfl⟩ := mem_nextOf.mp hp
    obtain ⟨h1, h2⟩ := allGo_pre n _ q hq
    rw [List.length_append] at h1 h2
    have e : q.take found.length = (q.take (found.length + [((k : Nat) : Int)].length)).take found.length := by rw [List.take_take, Nat.min_eq_left (by omega)]
    refine ⟨?_, by rw [h2]; simp; omega⟩
    rw [e, h1, List.take_left]
theorem flat_if {α β : Type} (l : List α) (c : α → Bool) (f : α → List β) : (l.flatMap fun a => if c a = true then f a else []) = (l.filter c).flatMap f := by
  induction l with
  | nil => rfl
  | cons a r ih =>
    rw [List.flatMap_cons, ih, List.filter_cons]
    cases h : c a with
    | true => simp
    | false => simp
/-- the signs with so many ahead, a new one among them -/
theorem some_filter {p : List Int} (h : IsPat p) {t : Int} (h0 : 0 ≤ t) : (((List.range (knownF p + 1)).map fun i : Nat => (i : Int)).filter fun s => decide (((p.count s : Nat) : Int) = t)) = someF p t := by
  rw [List.range_succ, List.map_append, List.filter_append]
  have hk : p.count (knownF p : Int) = 0 := List.count_eq_zero.mpr fun q => h.fresh ((firsts_mem [] p _).mpr (.inr q))
  by_cases ht : 0 < t
  · rw [some_prog h, if_pos ht]
    have : (List.map (fun i : Nat => (i : Int)) [knownF p]).filter (fun s => decide (((p.count s : Nat) : Int) = t)) = [] := by
      rw [List.filter_eq_nil_iff]
      intro s hs
      simp only [List.map_cons, List.map_nil, List.mem_singleton] at hs
      rw [hs, hk]
      simp only [decide_eq_true_eq]
      omega
    rw [this, List.append_nil]
  · have e : t = 0 := by omega
    subst e
    unfold someF
    rw [if_neg ht]
    have e1 : ((List.range (knownF p)).map fun i : Nat => (i : Int)).filter (fun s => decide (((p.count s : Nat) : Int) = 0)) = [] := by
      rw [List.filter_eq_nil_iff]
      intro s hs
      have h' : firsts [] p = (List.range (knownF p)).map fun i : Nat => (i : Int) := h
      rw [← h'] at hs
      have hp : s ∈ p := ((firsts_mem [] p s).mp hs).resolve_left (by simp)
      have := List.count_pos_iff.mpr hp
      simp only [decide_eq_true_eq]
      omega
    rw [e1]
    simp [hk]
theorem range_mul {α : Type} (g : Nat → α) (M : Nat) : ∀ b : Nat, (List.range (b * M)).map g = (List.range b).flatMap fun d => (List.range M).map fun r => g (d * M + r)
  | 0 => by simp
  | b + 1 => by
    rw [Nat.succ_mul, List.range_add, List.map_append, range_mul g M b, List.range_succ, List.flatMap_append, List.flatMap_singleton, List.map_map]
    rfl
theorem flat_getD {β : Type} (F : Int → List β) (l : List Int) : l.flatMap F = (List.range l.length).flatMap fun d => F (l.getD d 0) := by
  rw [List.flatMap_def, List.flatMap_def, map_getD F l]
theorem every_go {row : List Int} (hg : Good row) : ∀ (n i : Nat) (found : List Int), i + n = row.length → IsPat found → countsF found = row.take i →
    (allGo found n).filter (fun p => decide (countsF p = row)) = (List.range (prodFrom row i n).toNat).map fun k : Nat => patGo found (row.drop i) (prodFrom row i n) (k : Int)
  | 0, i, found, hn, hp, hc => by
    have e : countsF found = row := by rw [hc, List.take_of_length_le (by omega)]
    show [found].filter _ = (List.range 1).map _
    rw [List.filter_cons, if_pos (decide_eq_true e), List.drop_of_length_le (by omega)]
    rfl
  | n + 1, i, found, hn, hp, hc => by
    have hi : i < row.length := by omega
    have hlf := hg i hi
    have hfl : found.length = i := by rw [← countsF_len, hc, List.length_take]; omega
    have hpos := prodFrom_pos hg n (i + 1) (by omega)
    have hsl := some_len hc hlf
    show ((nextOf found).flatMap fun p => allGo p n).filter _ = _
    rw [List.filter_flatMap]
    unfold nextOf
    have e1 : ((List.range (knownF found + 1)).map fun k : Nat => found ++ [(k : Int)]) = ((List.range (knownF found + 1)).map fun k : Nat => (k : Int)).map fun s => found ++ [s] := by rw [List.map_map]; rfl
    rw [e1, List.flatMap_map]
    have e2 : (fun s : Int => (allGo (found ++ [s]) n).filter fun p => decide (countsF p = row)) = fun s : Int => if (decide (((found.count s : Nat) : Int) = row.getD i 0)) = true then (allGo (found ++ [s]) n).filter (fun p => decide (countsF p = row)) else [] := by
      funext s
      by_cases q : ((found.count s : Nat) : Int) = row.getD i 0
      · rw [if_pos (decide_eq_true q)]
      · rw [if_neg (by simpa using q), List.filter_eq_nil_iff]
        intro p hpm
        simp only [decide_eq_true_eq]
        intro ec
        obtain ⟨h1, h2⟩ := allGo_pre n _ p hpm
        have hpl : p.length = row.length := by rw [← countsF_len, ec]
        have h3 := countsF_take p (found ++ [s]).length (by rw [h2]; omega)
        rw [h1, ec, countsF_snoc, List.length_append, hfl, hc] at h3
        have h4 : row.take (i + 1) = row.take i ++ [row.getD i 0] := take_next hi
        have h5 : row.take (i + [s].length) = row.take (i + 1) := rfl
        rw [h5, h4] at h3
        have h6 := List.append_cancel_left h3
        exact q (by simpa using h6)
    rw [e2, flat_if, some_filter hp (left_nn hlf), flat_getD]
    have e3 : (prodFrom row i (n + 1)).toNat = (someF found (row.getD i 0)).length * (prodFrom row (i + 1) n).toNat := by
      show (leftF row i * prodFrom row (i + 1) n).toNat = _
      rw [← hsl]
      have : ((someF found (row.getD i 0)).length : Int) * prodFrom row (i + 1) n = (((someF found (row.getD i 0)).length * (prodFrom row (i + 1) n).toNat : Nat) : Int) := by
        rw [Int.natCast_mul, Int.toNat_of_nonneg (by omega)]
      rw [this, Int.toNat_natCast]
    rw [e3, range_mul, List.flatMap_def, List.flatMap_def]
    congr 1
    apply List.map_congr_left
    intro d hd
    have hd' := List.mem_range.mp hd
    obtain ⟨b1, b2⟩ := pat_next hg hp hc hi (getD_mem hd')
    rw [every_go hg n (i + 1) _ (by omega) b1 b2]
    apply List.map_congr_left
    intro r hr
    have hr' := List.mem_range.mp hr
    have hM : ((prodFrom row (i + 1) n).toNat : Int) = prodFrom row (i + 1) n := Int.toNat_of_nonneg (by omega)
    have ek : ((d * (prodFrom row (i + 1) n).toNat + r : Nat) : Int) = (r : Int) + (d : Int) * prodFrom row (i + 1) n := by
      rw [Int.natCast_add, Int.natCast_mul, hM]; omega
    have hb0 : 0 ≤ (d : Int) * prodFrom row (i + 1) n := Int.mul_nonneg (by omega) (by omega)
    have hb1 : ((d : Int) + 1) * prodFrom row (i + 1) n ≤ leftF row i * prodFrom row (i + 1) n := Int.mul_le_mul_of_nonneg_right (by omega) (by omega)
    rw [Int.add_mul, Int.one_mul] at hb1
    obtain ⟨a1, a2, a3, a4, a5⟩ := pat_turn hg hp hc hn (number := (r : Int) + (d : Int) * prodFrom row (i + 1) n) (by omega) (by show _ < leftF row i * prodFrom row (i + 1) n; omega)
    rw [ek]
    conv => rhs; rw [drop_next hi]; unfold patGo
    rw [a1]
    have q1 : ((r : Int) + (d : Int) * prodFrom row (i + 1) n) / prodFrom row (i + 1) n = (d : Int) := by
      rw [Int.add_mul_ediv_right _ _ (by omega), Int.ediv_eq_zero_of_lt (by omega) (by omega), Int.zero_add]
    have q2 : ((r : Int) + (d : Int) * prodFrom row (i + 1) n) % prodFrom row (i + 1) n = (r : Int) := by
      rw [Int.add_mul_emod_self_right, Int.emod_eq_of_lt (by omega) (by omega)]
    rw [q1, q2, Int.toNat_natCast]
/-- all patterns with a row as counts, in order -/
def everyF (row : List Int) : List (List Int) := (patternsF row.length).filter fun p => decide (countsF p = row)
theorem every_good {row : List Int} (hg : Good row) : everyF row = (List.range (manyF row).toNat).map fun k : Nat => patF row (k : Int) := by
  unfold everyF
  rw [patterns_go]
  exact every_go hg row.length 0 [] (by omega) isPat_nil rfl
theorem every_bad {row : List Int} (hg : ¬ Good row) : everyF row = [] := by
  unfold everyF
  rw [List.filter_eq_nil_iff]
  intro p _
  simp only [decide_eq_true_eq]
  intro e
  exact hg (e ▸ good_counts p)
theorem every_len {row : List Int} (hg : Good row) : ((everyF row).length : Int) = manyF row := by
  rw [every_good hg, List.length_map, List.length_range]
  have := manyF_pos hg
  omega
theorem every_few {row : List Int} (hl : row.length ≤ 6) : (everyF row).length ≤ 720 := by
  unfold everyF
  have h1 := List.length_filter_le (fun p => decide (countsF p = row)) (patternsF row.length)
  have h2 := patterns_len row.length
  have h3 := fact_le6 hl
  omega
/-! ### the order -/
theorem some_rise {p : List Int} (h : IsPat p) (t : Int) : (someF p t).Pairwise (· < ·) := by
  rw [some_prog h]
  split
  · refine List.Pairwise.filter _ ?_
    rw [List.pairwise_map]
    exact List.pairwise_lt_range.imp fun {a b} q => by omega
  · simp
theorem rise_at {l : List Int} (h : l.Pairwise (· < ·)) {j k : Nat} (hj : j < k) (hk : k < l.length) : l.getD j 0 < l.getD k 0 := by
  rw [List.getD_eq_getElem?_getD, List.getD_eq_getElem?_getD, List.getElem?_eq_getElem hk, List.getElem?_eq_getElem (by omega)]
  exact List.pairwise_iff_getElem.mp h j k (by omega) hk hj
def patTail (found : List Int) : List Int → Int → Int → List Int
  | [], _, _ => []
  | t :: r, many, number => (someF found t).getD (number / (many / ((someF found t).length : Int))).toNat 0 :: patTail (found ++ [(someF found t).getD (number / (many / ((someF found t).length : Int))).toNat 0]) r (many / ((someF found t).length : Int)) (number % (many / ((someF found t).length : Int)))
theorem patGo_tail : ∀ (rest found : List Int) (m x : Int), patGo found rest m x = found ++ patTail found rest m x
  | [], found, m, x => (List.append_nil _).symm
  | t :: r, found, m, x => by
    unfold patGo patTail
    rw [patGo_tail, List.append_assoc]
    rfl
theorem tail_le {row : List Int} (hg : Good row) : ∀ (n i : Nat) (found : List Int) (x y : Int), i + n = row.length → IsPat found → countsF found = row.take i → 0 ≤ x → x ≤ y → y < prodFrom row i n →
    ¬ patTail found (row.drop i) (prodFrom row i n) y < patTail found (row.drop i) (prodFrom row i n) x
  | 0, i, found, x, y, hn, hp, hc, h0, h1, h2 => by
    rw [List.drop_of_length_le (by omega)]
    exact List.not_lt_nil _
  | n + 1, i, found, x, y, hn, hp, hc, h0, h1, h2 => by
    have hi : i < row.length := by omega
    obtain ⟨a1, a2, a3, a4, a5⟩ := pat_turn hg hp hc hn h0 (Int.lt_of_le_of_lt h1 h2)
    obtain ⟨b1, b2, b3, b4, b5⟩ := pat_turn hg hp hc hn (Int.le_trans h0 h1) h2
    rw [drop_next hi]
    unfold patTail
    rw [a1, List.cons_lt_cons_iff]
    have hxy : x / prodFrom row (i + 1) n ≤ y / prodFrom row (i + 1) n := Int.ediv_le_ediv a5 h1
    have hky : (y / prodFrom row (i + 1) n).toNat < (someF found (row.getD i 0)).length := by omega
    have hkx : (x / prodFrom row (i + 1) n).toNat < (someF found (row.getD i 0)).length := by omega
    by_cases e : x / prodFrom row (i + 1) n = y / prodFrom row (i + 1) n
    · rw [e]
      rintro (q | ⟨_, q⟩)
      · exact absurd q (Int.lt_irrefl _)
      · obtain ⟨c1, c2⟩ := pat_next hg hp hc hi (getD_mem hky)
        refine tail_le hg n (i + 1) _ _ _ (by omega) c1 c2 (Int.emod_nonneg _ (by omega)) ?_ (Int.emod_lt_of_pos _ a5) q
        have q1 := Int.mul_ediv_add_emod x (prodFrom row (i + 1) n)
        have q2 := Int.mul_ediv_add_emod y (prodFrom row (i + 1) n)
        rw [e] at q1
        omega
    · have hr := rise_at (some_rise hp (row.getD i 0)) (j := (x / prodFrom row (i + 1) n).toNat) (k := (y / prodFrom row (i + 1) n).toNat) (by omega) hky
      rintro (q | ⟨q, _⟩)
      · omega
      · omega
theorem patF_le {row : List Int} (hg : Good row) {x y : Int} (h0 : 0 ≤ x) (h1 : x ≤ y) (h2 : y < manyF row) : ¬ patF row y < patF row x := by
  unfold patF
  rw [patGo_tail, patGo_tail]
  exact tail_le hg row.length 0 [] x y (by omega) isPat_nil rfl h0 h1 h2
end Oa
/-! shapes, their ways on -/
namespace Oa
def IsShape (s : List Int) : Prop := s.Pairwise (fun a b => b ≤ a) ∧ ∀ x ∈ s, 1 ≤ x
theorem isShape_nil : IsShape [] := ⟨List.Pairwise.nil, fun x h => nomatch h⟩
theorem IsShape.tail {a : Int} {r : List Int} (h : IsShape (a :: r)) : IsShape r := ⟨(List.pairwise_cons.mp h.1).2, fun x hx => h.2 x (List.mem_cons_of_mem _ hx)⟩
theorem IsShape.head {a : Int} {r : List Int} (h : IsShape (a :: r)) : 1 ≤ a ∧ r.getD 0 0 ≤ a := by
  refine ⟨h.2 a (List.mem_cons_self ..), ?_⟩
  cases r with
  | nil => have := h.2 a (List.mem_cons_self ..); show (0 : Int) ≤ a; omega
  | cons b r => exact (List.pairwise_cons.mp h.1).1 b (List.mem_cons_self ..)
theorem IsShape.cons {a : Int} {r : List Int} (h : IsShape r) (ha : 1 ≤ a) (hr : r.getD 0 0 ≤ a) : IsShape (a :: r) := by
  refine ⟨List.pairwise_cons.mpr ⟨fun b hb => ?_, h.1⟩, fun x hx => ?_⟩
  · cases r with
    | nil => cases hb
    | cons c r =>
      have hr' : c ≤ a := hr
      rcases List.mem_cons.mp hb with q | q
      · rw [q]; exact hr'
      · exact Int.le_trans ((List.pairwise_cons.mp h.1).1 b q) hr'
  · rcases List.mem_cons.mp hx with q | q
    · rw [q]; exact ha
    · exact h.2 x q
def bumpF (s : List Int) (i : Nat) : List Int := s.take i ++ [if i < s.length then s.getD i 0 + 1 else 1] ++ s.drop (i + 1)
def condW (s : List Int) (i : Nat) : Bool := decide (i = 0) || (decide (i = s.length) || decide (s.getD i 0 < s.getD (i - 1) 0))
/-- all shapes with one more, by the number that comes -/
def widerF (s : List Int) : List (Nat × List Int) := ((List.range (s.length + 1)).filter (condW s)).map fun i => (i, bumpF s i)
def waysF : List Int → Nat → Int
  | _, 0 => 1
  | s, n + 1 => ((widerF s).map fun p => waysF p.2 n).sum
/-! ### by recursion, below a bound -/
def idxW (m : Int) : List Int → List (Nat × List Int)
  | [] => if 0 < m then [(0, [1])] else []
  | a :: r => (if a < m then [(0, (a + 1) :: r)] else []) ++ (idxW a r).map fun p => (p.1 + 1, a :: p.2)
theorem bump_zero (a : Int) (r : List Int) : bumpF (a :: r) 0 = (a + 1) :: r := by
  unfold bumpF
  rw [if_pos (by simp)]
  simp
theorem bump_succ (a : Int) (r : List Int) (i : Nat) : bumpF (a :: r) (i + 1) = a :: bumpF r i := by
  unfold bumpF
  simp
def condB (m : Int) (s : List Int) (i : Nat) : Bool := decide (s.getD i 0 < (if i = 0 then m else s.getD (i - 1) 0))
theorem condB_succ (m a : Int) (r : List Int) (i : Nat) : condB m (a :: r) (i + 1) = condB a r i := by
  unfold condB
  rw [if_neg (by omega), List.getD_cons_succ]
  cases i with
  | zero => simp
  | succ i => simp
theorem idx_by : ∀ (s : List Int) (m : Int), idxW m s = ((List.range (s.length + 1)).filter (condB m s)).map fun i => (i, bumpF s i)
  | [], m => by
    show (if 0 < m then [(0, [1])] else []) = _
    by_cases h : 0 < m
    · rw [if_pos h]
      have : condB m [] 0 = true := decide_eq_true h
      simp [this, bumpF, List.range_succ]
    · rw [if_neg h]
      have : condB m [] 0 = false := decide_eq_false h
      simp [this, List.range_succ]
  | a :: r, m => by
    show (if a < m then [(0, (a + 1) :: r)] else []) ++ (idxW a r).map _ = _
    have e0 : List.range ((a :: r).length + 1) = 0 :: (List.range (r.length + 1)).map Nat.succ := by rw [List.length_cons, List.range_succ_eq_map]
    rw [idx_by r a, e0, List.filter_cons, List.filter_map]
    have e1 : (condB m (a :: r)) ∘ Nat.succ = condB a r := by funext i; exact condB_succ m a r i
    have e2 : condB m (a :: r) 0 = decide (a < m) := rfl
    rw [e1, e2]
    by_cases h : a < m
    · rw [if_pos h, if_pos (decide_eq_true h), List.map_cons, bump_zero, List.map_map, List.map_map]
      show _ :: _ = _ :: _
      congr 1
      apply List.map_congr_left
      intro i _
      show (i + 1, a :: bumpF r i) = (i + 1, bumpF (a :: r) (i + 1))
      rw [bump_succ]
    · rw [if_neg h, if_neg (by simpa using h), List.nil_append, List.map_map, List.map_map]
      apply List.map_congr_left
      intro i _
      show (i + 1, a :: bumpF r i) = (i + 1, bumpF (a :: r) (i + 1))
      rw [bump_succ]
theorem shape_at {s : List Int} (h : IsShape s) {i : Nat} (hi : i < s.length) : 1 ≤ s.getD i 0 := h.2 _ (getD_mem hi)
theorem wider_idx {s : List Int} (h : IsShape s) {m : Int} (hm : s.getD 0 0 < m) : widerF s = idxW m s := by
  rw [idx_by]
  unfold widerF
  congr 1
  apply List.filter_congr
  intro i hi
  have hi' := List.mem_range.mp hi
  unfold condW condB
  by_cases e0 : i = 0
  · subst e0
    rw [if_pos rfl, decide_eq_true rfl, decide_eq_true hm]
    rfl
  · rw [if_neg e0, decide_eq_false e0]
    by_cases el : i = s.length
    · have h1 : s.getD i 0 = 0 := by rw [List.getD_eq_getElem?_getD, List.getElem?_eq_none (by omega)]; rfl
      have h2 := shape_at h (i := i - 1) (by omega)
      rw [decide_eq_true el, decide_eq_true (show s.getD i 0 < s.getD (i - 1) 0 by omega)]
      rfl
    · rw [decide_eq_false el]
      rfl
/-! ### down -/
def cons0 (a : Int) (r : List Int) : List Int := if a = 0 then r else a :: r
def dnF : List Int → List (List Int)
  | [] => []
  | a :: r => (if r.getD 0 0 < a then [cons0 (a - 1) r] else []) ++ (dnF r).map fun s => a :: s
def upF (m : Int) (s : List Int) : List (List Int) := (idxW m s).map (·.2)
theorem upF_nil (m : Int) : upF m [] = if 0 < m then [[1]] else [] := by
  unfold upF idxW
  split <;> rfl
theorem upF_cons (m a : Int) (r : List Int) : upF m (a :: r) = (if a < m then [(a + 1) :: r] else []) ++ (upF a r).map fun s => a :: s := by
  unfold upF
  conv => lhs; unfold idxW
  rw [List.map_append, List.map_map, List.map_map]
  congr 1
  split <;> rfl
theorem up_head {m : Int} : ∀ {s μ : List Int}, IsShape s → s.getD 0 0 ≤ m → μ ∈ upF m s → IsShape μ ∧ 1 ≤ μ.getD 0 0 ∧ μ.getD 0 0 ≤ m ∧ μ.getD 0 0 ≤ s.getD 0 0 + 1 ∧ s.getD 0 0 ≤ μ.getD 0 0
  | [], μ, hs, hm, h => by
    rw [upF_nil] at h
    split at h
    · rw [List.mem_singleton.mp h]
      exact ⟨⟨by simp, by simp⟩, Int.le_refl _, by show (1 : Int) ≤ m; omega, by show (1 : Int) ≤ 0 + 1; decide, by show (0 : Int) ≤ 1; decide⟩
    · cases h
  | a :: r, μ, hs, hm, h => by
    have hh := hs.head
    have hm' : a ≤ m := hm
    rw [upF_cons] at h
    rcases List.mem_append.mp h with h | h
    · split at h
      · rename_i q
        rw [List.mem_singleton.mp h]
        exact ⟨hs.tail.cons (by omega) (by omega), by show 1 ≤ a + 1; omega, by show a + 1 ≤ m; omega, Int.le_refl _, by show a ≤ a + 1; omega⟩
      · cases h
    · obtain ⟨ν, hν, rfl⟩ := List.mem_map.mp h
      obtain ⟨h1, h2, h3, h4, h5⟩ := up_head hs.tail hh.2 hν
      exact ⟨h1.cons hh.1 h3, hh.1, hm', by show a ≤ a + 1; omega, Int.le_refl _⟩
theorem dn_head : ∀ {s ν : List Int}, IsShape s → ν ∈ dnF s → IsShape ν ∧ ν.getD 0 0 ≤ s.getD 0 0
  | a :: r, ν, hs, h => by
    have hh := hs.head
    unfold dnF at h
    rcases List.mem_append.mp h with h | h
    · split at h
      · rename_i q
        rw [List.mem_singleton.mp h]
        unfold cons0
        by_cases e : a - 1 = 0
        · rw [if_pos e]
          exact ⟨hs.tail, hh.2⟩
        · rw [if_neg e]
          exact ⟨hs.tail.cons (by omega) (by omega), by show a - 1 ≤ a; omega⟩
      · cases h
    · obtain ⟨μ, hμ, rfl⟩ := List.mem_map.mp h
      obtain ⟨h1, h2⟩ := dn_head hs.tail hμ
      exact ⟨h1.cons hh.1 (Int.le_trans h2 hh.2), Int.le_refl _⟩
def sumOf (f : List Int → Int) (l : List (List Int)) : Int := (l.map f).sum
theorem sumOf_nil (f : List Int → Int) : sumOf f [] = 0 := rfl
theorem sumOf_cons (f : List Int → Int) (a : List Int) (l : List (List Int)) : sumOf f (a :: l) = f a + sumOf f l := by unfold sumOf; rw [List.map_cons, List.sum_cons]
theorem sumOf_app (f : List Int → Int) (l m : List (List Int)) : sumOf f (l ++ m) = sumOf f l + sumOf f m := by unfold sumOf; rw [List.map_append, List.sum_append]
theorem sumOf_map (f : List Int → Int) (g : List Int → List Int) (l : List (List Int)) : sumOf f (l.map g) = sumOf (fun s => f (g s)) l := by unfold sumOf; rw [List.map_map]; rfl
theorem sumOf_congr {f g : List Int → Int} {l : List (List Int)} (h : ∀ s ∈ l, f s = g s) : sumOf f l = sumOf g l := by unfold sumOf; rw [List.map_congr_left h]
theorem sumOf_add (f g : List Int → Int) : ∀ l : List (List Int), sumOf (fun s => f s + g s) l = sumOf f l + sumOf g l
  | [] => rfl
  | a :: l => by rw [sumOf_cons, sumOf_cons, sumOf_cons, sumOf_add f g l]; omega
theorem sumOf_mul (c : Int) (f : List Int → Int) : ∀ l : List (List Int), sumOf (fun s => c * f s) l = c * sumOf f l
  | [] => by simp [sumOf]
  | a :: l => by rw [sumOf_cons, sumOf_cons, sumOf_mul c f l, Int.mul_add]
theorem sumOf_filter (f : List Int → Int) (c : List Int → Bool) : ∀ l : List (List Int), sumOf (fun s => if c s = true then f s else 0) l = sumOf f (l.filter c)
  | [] => rfl
  | a :: l => by
    rw [sumOf_cons, sumOf_filter f c l, List.filter_cons]
    cases h : c a with
    | true => rw [if_pos rfl, if_pos rfl, sumOf_cons]
    | false => simp
theorem sumOf_if (f : List Int → Int) (c : Prop) [Decidable c] (a : List Int) : sumOf f (if c then [a] else []) = if c then f a else 0 := by
  split
  · rw [sumOf_cons, sumOf_nil]; omega
  · rfl
/-- those that stay below the bound -/
theorem up_low {a : Int} : ∀ {r : List Int}, IsShape r → r.getD 0 0 ≤ a → (upF a r).filter (fun μ => decide (μ.getD 0 0 < a)) = if r.getD 0 0 < a then upF (a - 1) r else []
  | [], hs, hm => by
    rw [upF_nil, upF_nil]
    have hm' : (0 : Int) ≤ a := hm
    show _ = if (0 : Int) < a then _ else _
    by_cases h0 : 0 < a
    · rw [if_pos h0, if_pos h0]
      by_cases h1 : 0 < a - 1
      · rw [if_pos h1, List.filter_cons, if_pos (decide_eq_true (show ([1] : List Int).getD 0 0 < a from (by show (1 : Int) < a; omega)))]
        rfl
      · rw [if_neg h1, List.filter_cons, if_neg (by rw [decide_eq_true_eq]; show ¬ (1 : Int) < a; omega)]
        rfl
    · rw [if_neg h0, if_neg h0]
      rfl
  | b :: r, hs, hm => by
    have hm' : b ≤ a := hm
    show _ = if b < a then _ else _
    rw [upF_cons, upF_cons, List.filter_append, List.filter_map]
    by_cases h : b < a
    · rw [if_pos h, if_pos h]
      congr 1
      · by_cases h1 : b < a - 1
        · rw [if_pos h1, List.filter_cons, if_pos (decide_eq_true (show ((b + 1) :: r).getD 0 0 < a from (by show b + 1 < a; omega)))]
          rfl
        · rw [if_neg h1, List.filter_cons, if_neg (by rw [decide_eq_true_eq]; show ¬ b + 1 < a; omega)]
          rfl
      · rw [List.filter_eq_self.mpr]
        intro μ _
        exact decide_eq_true (show b < a from h)
    · rw [if_neg h, if_neg h, List.filter_nil, List.nil_append]
      have : (upF b r).filter ((fun μ => decide (μ.getD 0 0 < a)) ∘ fun s => b :: s) = [] := by
        rw [List.filter_eq_nil_iff]
        intro μ _
        show ¬ decide (b < a) = true
        simpa using h
      rw [this]
      rfl
/-- up and down, down and up -/
theorem up_down (f : List Int → Int) {m : Int} : ∀ {s : List Int}, IsShape s → s.getD 0 0 ≤ m → sumOf (fun μ => sumOf f (dnF μ)) (upF m s) = sumOf (fun ν => sumOf f (upF m ν)) (dnF s) + (if s.getD 0 0 < m then f s else 0) := by
  intro s
  induction s generalizing f m with
  | nil =>
    intro hs hm
    rw [upF_nil]
    show _ = sumOf _ [] + if (0 : Int) < m then f [] else 0
    rw [sumOf_nil, sumOf_if, Int.zero_add]
    have e : sumOf f (dnF [1]) = f [] := by
      unfold dnF dnF cons0
      simp [sumOf]
    rw [e]
  | cons a r ih =>
    intro hs hm
    have hh := hs.head
    have hm' : a ≤ m := hm
    show _ = _ + if a < m then f (a :: r) else 0
    rw [upF_cons, sumOf_app, sumOf_if, sumOf_map]
    -- above
    have e1 : sumOf f (dnF ((a + 1) :: r)) = f (a :: r) + sumOf (fun ν => f ((a + 1) :: ν)) (dnF r) := by
      conv => lhs; unfold dnF
      rw [if_pos (by omega), sumOf_app, sumOf_cons, sumOf_nil, sumOf_map, Int.add_zero]
      unfold cons0
      rw [if_neg (by omega), Int.add_sub_cancel]
    have e2 : sumOf (fun μ => sumOf f (dnF (a :: μ))) (upF a r) = sumOf (fun μ => if decide (μ.getD 0 0 < a) = true then f ((a - 1) :: μ) else 0) (upF a r) + sumOf (fun μ => sumOf (fun ν => f (a :: ν)) (dnF μ)) (upF a r) := by
      rw [← sumOf_add]
      apply sumOf_congr
      intro μ hμ
      obtain ⟨h1, h2, h3, h4, h5⟩ := up_head hs.tail hh.2 hμ
      conv => lhs; unfold dnF
      rw [sumOf_app, sumOf_map, sumOf_if]
      congr 1
      by_cases q : μ.getD 0 0 < a
      · rw [if_pos q, if_pos (decide_eq_true q)]
        unfold cons0
        rw [if_neg (by omega)]
      · rw [if_neg q, if_neg (by simpa using q)]
    have e3 : sumOf (fun μ => if decide (μ.getD 0 0 < a) = true then f ((a - 1) :: μ) else 0) (upF a r) = if r.getD 0 0 < a then sumOf (fun μ => f ((a - 1) :: μ)) (upF (a - 1) r) else 0 := by
      rw [sumOf_filter (fun μ => f ((a - 1) :: μ)) (fun μ => decide (μ.getD 0 0 < a)), up_low hs.tail hh.2]
      split
      · rfl
      · rfl
    have e4 := ih (fun ν => f (a :: ν)) (m := a) hs.tail hh.2
    -- below
    have e5 : sumOf (fun ν => sumOf f (upF m ν)) (dnF (a :: r)) = (if r.getD 0 0 < a then f (a :: r) + sumOf (fun μ => f ((a - 1) :: μ)) (upF (a - 1) r) else 0) + sumOf (fun ν => (if a < m then f ((a + 1) :: ν) else 0) + sumOf (fun μ => f (a :: μ)) (upF a ν)) (dnF r) := by
      conv => lhs; unfold dnF
      rw [sumOf_app, sumOf_map, sumOf_if]
      congr 1
      · split
        · rename_i q
          unfold cons0
          by_cases e : a - 1 = 0
          · rw [if_pos e]
            have hr : r = [] := by
              cases r with
              | nil => rfl
              | cons b r =>
                have := hs.tail.head.1
                have q' : b < a := q
                omega
            subst hr
            have ea : a = 1 := by omega
            subst ea
            rw [upF_nil, upF_nil, if_pos (by omega), if_neg (by omega)]
            simp [sumOf]
          · rw [if_neg e, upF_cons, sumOf_app, sumOf_map, sumOf_if, if_pos (by omega), Int.sub_add_cancel]
        · rfl
      · apply sumOf_congr
        intro ν _
        rw [upF_cons, sumOf_app, sumOf_map, sumOf_if]
    rw [e1, e2, e3, e4, e5, sumOf_add]
    by_cases q1 : a < m
    · simp only [if_pos q1]
      by_cases q2 : r.getD 0 0 < a
      · simp only [if_pos q2]; omega
      · simp only [if_neg q2]; omega
    · simp only [if_neg q1]
      have z : sumOf (fun ν => (0 : Int)) (dnF r) = 0 := by
        have := sumOf_mul 0 (fun _ => (0 : Int)) (dnF r)
        simpa using this
      rw [z]
      by_cases q2 : r.getD 0 0 < a
      · simp only [if_pos q2]; omega
      · simp only [if_neg q2]; omega
theorem up_many {m : Int} : ∀ {s : List Int}, IsShape s → s.getD 0 0 ≤ m → ((upF m s).length : Int) = (dnF s).length + (if s.getD 0 0 < m then 1 else 0) := by
  intro s
  induction s generalizing m with
  | nil =>
    intro hs hm
    rw [upF_nil]
    show _ = ((([] : List (List Int)).length : Nat) : Int) + if (0 : Int) < m then 1 else 0
    split <;> simp
  | cons a r ih =>
    intro hs hm
    have hh := hs.head
    have h := ih (m := a) hs.tail hh.2
    show _ = _ + if a < m then (1 : Int) else 0
    rw [upF_cons]
    unfold dnF
    rw [List.length_append, List.length_append, List.length_map, List.length_map]
    by_cases q1 : a < m <;> by_cases q2 : r.getD 0 0 < a <;> simp only [q1, q2, if_true, if_false] at h ⊢ <;> simp <;> omega
/-! ### the ways on, by fewer ones -/
theorem ways_succ {s : List Int} (h : IsShape s) {m : Int} (hm : s.getD 0 0 < m) (n : Nat) : waysF s (n + 1) = sumOf (fun μ => waysF μ n) (upF m s) := by
  show ((widerF s).map fun p => waysF p.2 n).sum = _
  rw [wider_idx h hm]
  unfold sumOf upF
  rw [List.map_map]
  rfl
theorem ways_rec {M : Int} : ∀ (n : Nat) {s : List Int}, IsShape s → s.getD 0 0 + (n : Int) + 1 < M → waysF s (n + 1) = sumOf (fun ν => waysF ν n) (dnF s) + waysF s n + (n : Int) * waysF s (n - 1)
  | 0, s, h, hm => by
    rw [ways_succ h (m := M) (by omega)]
    have h1 : ∀ l : List (List Int), sumOf (fun ν => waysF ν 0) l = (l.length : Int) := fun l => by
      induction l with
      | nil => rfl
      | cons a l ih => rw [sumOf_cons, ih, List.length_cons]; show 1 + (l.length : Int) = _; omega
    rw [h1, h1, up_many h (by omega), if_pos (by omega)]
    show _ = _ + 1 + (0 : Int) * _
    omega
  | n + 1, s, h, hm => by
    have hM : s.getD 0 0 < M := by omega
    rw [ways_succ h hM]
    have e1 : sumOf (fun μ => waysF μ (n + 1)) (upF M s) = sumOf (fun μ => sumOf (fun ν => waysF ν n) (dnF μ) + (waysF μ n + (n : Int) * waysF μ (n - 1))) (upF M s) := by
      apply sumOf_congr
      intro μ hμ
      obtain ⟨h1, h2, h3, h4, h5⟩ := up_head h (by omega) hμ
      rw [ways_rec (M := M) n h1 (by omega)]
      omega
    have e2 := up_down (fun ν => waysF ν n) h (m := M) (by omega)
    rw [if_pos hM] at e2
    have e3 : sumOf (fun ν => sumOf (fun μ => waysF μ n) (upF M ν)) (dnF s) = sumOf (fun ν => waysF ν (n + 1)) (dnF s) := by
      apply sumOf_congr
      intro ν hν
      obtain ⟨h1, h2⟩ := dn_head h hν
      rw [ways_succ h1 (m := M) (by omega)]
    rw [e1, sumOf_add, e2, e3, sumOf_add, sumOf_mul, ← ways_succ h hM n]
    cases n with
    | zero =>
      show _ + waysF s 0 + (waysF s 1 + (0 : Int) * _) = _ + waysF s 1 + (((0 + 1 : Nat) : Int)) * waysF s 0
      have : (((0 + 1 : Nat) : Int)) = 1 := rfl
      rw [this]
      omega
    | succ k =>
      rw [show k + 1 - 1 = k from rfl, ← ways_succ h hM k]
      show _ + waysF s (k + 1) + (waysF s (k + 1 + 1) + ((k + 1 : Nat) : Int) * waysF s (k + 1)) = _ + waysF s (k + 1 + 1) + ((k + 1 + 1 : Nat) : Int) * waysF s (k + 1)
      have : ((k + 1 + 1 : Nat) : Int) * waysF s (k + 1) = ((k + 1 : Nat) : Int) * waysF s (k + 1) + waysF s (k + 1) := by
        rw [show ((k + 1 + 1 : Nat) : Int) = ((k + 1 : Nat) : Int) + 1 by omega, Int.add_mul, Int.one_mul]
      rw [this]
      omega
theorem ways_nil (n : Nat) : waysF [] (n + 1) = waysF [] n + (n : Int) * waysF [] (n - 1) := by
  rw [ways_rec (M := (n : Int) + 2) n isShape_nil (by show (0 : Int) + (n : Int) + 1 < _; omega)]
  show sumOf _ [] + _ + _ = _
  rw [sumOf_nil, Int.zero_add]
end Oa
/-! all rows of counts of a length, in order -/
namespace Oa
def genR : List Int → Nat → List (List Int)
  | _, 0 => [[]]
  | s, n + 1 => (widerF s).flatMap fun p => (genR p.2 n).map fun t => (p.1 : Int) :: t
theorem flatLen {α β : Type} (F : α → List β) : ∀ l : List α, ((l.flatMap F).length : Int) = (l.map fun a => ((F a).length : Int)).sum
  | [] => rfl
  | a :: l => by rw [List.flatMap_cons, List.length_append, List.map_cons, List.sum_cons, ← flatLen F l]; omega
theorem genR_len : ∀ (n : Nat) (s : List Int), ((genR s n).length : Int) = waysF s n
  | 0, s => rfl
  | n + 1, s => by
    show (((widerF s).flatMap _).length : Int) = ((widerF s).map fun p => waysF p.2 n).sum
    rw [flatLen]
    congr 1
    apply List.map_congr_left
    intro p _
    rw [List.length_map, genR_len n p.2]
theorem ways_pos : ∀ (n : Nat) (s : List Int), 0 < waysF s n
  | 0, s => by show (0 : Int) < 1; decide
  | n + 1, s => by
    rw [← genR_len]
    have h0 : (0, bumpF s 0) ∈ widerF s := by
      unfold widerF
      refine List.mem_map.mpr ⟨0, List.mem_filter.mpr ⟨List.mem_range.mpr (by omega), rfl⟩, rfl⟩
    have h1 := ways_pos n (bumpF s 0)
    rw [← genR_len] at h1
    obtain ⟨t, ht⟩ : ∃ t, t ∈ genR (bumpF s 0) n := by
      cases e : genR (bumpF s 0) n with
      | nil => rw [e] at h1; simp at h1
      | cons a l => exact ⟨a, List.mem_cons_self ..⟩
    have : ((0 : Nat) : Int) :: t ∈ genR s (n + 1) := List.mem_flatMap.mpr ⟨_, h0, List.mem_map.mpr ⟨t, ht, rfl⟩⟩
    have := List.length_pos_of_mem this
    omega
theorem wider_mem {s : List Int} {p : Nat × List Int} (h : p ∈ widerF s) : p.1 ≤ s.length ∧ condW s p.1 = true ∧ p.2 = bumpF s p.1 := by
  unfold widerF at h
  obtain ⟨i, hi, rfl⟩ := List.mem_map.mp h
  obtain ⟨h1, h2⟩ := List.mem_filter.mp hi
  exact ⟨by have := List.mem_range.mp h1; show i ≤ _; omega, h2, rfl⟩
theorem mem_wider {s : List Int} {i : Nat} (h1 : i ≤ s.length) (h2 : condW s i = true) : (i, bumpF s i) ∈ widerF s :=
  List.mem_map.mpr ⟨i, List.mem_filter.mpr ⟨List.mem_range.mpr (by omega), h2⟩, rfl⟩
theorem wider_rise (s : List Int) : (widerF s).Pairwise fun p q => p.1 < q.1 := by
  unfold widerF
  rw [List.pairwise_map]
  exact (List.pairwise_lt_range.filter _).imp fun {a b} q => q
theorem wider_shape {s : List Int} (h : IsShape s) {p : Nat × List Int} (hp : p ∈ widerF s) : IsShape p.2 := by
  rw [wider_idx h (m := s.getD 0 0 + 1) (by omega)] at hp
  exact (up_head h (m := s.getD 0 0 + 1) (by omega) (List.mem_map.mpr ⟨p, hp, rfl⟩)).1
theorem bump_getD {s : List Int} {i : Nat} (hi : i ≤ s.length) (k : Nat) : (bumpF s i).getD k 0 = s.getD k 0 + if k = i then 1 else 0 := by
  unfold bumpF
  rw [List.getD_eq_getElem?_getD, List.append_assoc]
  by_cases h1 : k < i
  · rw [List.getElem?_append_left (by rw [List.length_take]; omega), List.getElem?_take, if_pos h1, if_neg (by omega), List.getD_eq_getElem?_getD, Int.add_zero]
  · rw [List.getElem?_append_right (by rw [List.length_take]; omega), List.length_take, Nat.min_eq_left hi]
    by_cases h2 : k = i
    · subst h2
      rw [if_pos rfl, Nat.sub_self]
      show (if k < s.length then s.getD k 0 + 1 else 1) = _
      by_cases h3 : k < s.length
      · rw [if_pos h3]
      · rw [if_neg h3]
        have : s.getD k 0 = 0 := by rw [List.getD_eq_getElem?_getD, List.getElem?_eq_none (by omega)]; rfl
        omega
    · rw [if_neg h2]
      obtain ⟨j, hj⟩ : ∃ j, k - i = j + 1 := ⟨k - i - 1, by omega⟩
      rw [hj, List.singleton_append, List.getElem?_cons_succ, List.getElem?_drop, show i + 1 + j = k by omega, List.getD_eq_getElem?_getD, Int.add_zero]
theorem sum_split : ∀ (l : List Int) (i : Nat), l.sum = (l.take i).sum + (l.drop i).sum := fun l i => by
  conv => lhs; rw [← List.take_append_drop i l]
  rw [List.sum_append]
theorem bump_sum {s : List Int} {i : Nat} (hi : i ≤ s.length) : (bumpF s i).sum = s.sum + 1 := by
  unfold bumpF
  rw [List.sum_append, List.sum_append, List.sum_singleton, sum_split s i]
  by_cases h : i < s.length
  · rw [if_pos h, drop_next h, List.sum_cons]; omega
  · rw [if_neg h, List.drop_of_length_le (show s.length ≤ i + 1 by omega), List.drop_of_length_le (show s.length ≤ i by omega)]; simp
/-! ### the shape of a row -/
structure ShapeOf (row s : List Int) : Prop where
  sh : IsShape s
  cnt : ∀ k : Nat, ((row.count (k : Int) : Nat) : Int) = s.getD k 0
  sum : s.sum = (row.length : Int)
theorem shapeOf_nil : ShapeOf [] [] := ⟨isShape_nil, fun k => by simp, rfl⟩
theorem ShapeOf.next {row s : List Int} (h : ShapeOf row s) {p : Nat × List Int} (hp : p ∈ widerF s) : ShapeOf (row ++ [(p.1 : Int)]) p.2 := by
  obtain ⟨h1, h2, h3⟩ := wider_mem hp
  refine ⟨wider_shape h.sh hp, fun k => ?_, ?_⟩
  · rw [h3, bump_getD h1, ← h.cnt k, List.count_append, List.count_singleton]
    by_cases e : k = p.1
    · rw [if_pos e, e]; simp
    · have : ((p.1 : Int) == (k : Int)) = false := by rw [beq_eq_false_iff_ne]; omega
      rw [if_neg e, this]; simp
  · rw [h3, bump_sum h1, h.sum, List.length_append]; simp
theorem shape_len : ∀ {s : List Int}, (∀ x ∈ s, 1 ≤ x) → (s.length : Int) ≤ s.sum
  | [], _ => by simp
  | a :: r, h => by
    have h1 := h a (List.mem_cons_self ..)
    have h2 := shape_len fun x hx => h x (List.mem_cons_of_mem a hx)
    rw [List.length_cons, List.sum_cons]
    omega
theorem ShapeOf.le {row s : List Int} (h : ShapeOf row s) : s.length ≤ row.length := by
  have h1 := shape_len h.sh.2
  have h2 := h.sum
  omega
def condR (row : List Int) (k : Nat) : Bool := decide (k = 0) || decide (row.count ((k : Int) - 1) > row.count (k : Int))
def nextR (row : List Int) : List (List Int) := ((List.range (row.length + 1)).filter (condR row)).map fun k : Nat => row ++ [(k : Int)]
theorem ShapeOf.cond {row s : List Int} (h : ShapeOf row s) (k : Nat) : condR row k = (decide (k ≤ s.length) && condW s k) := by
  unfold condR condW
  by_cases e0 : k = 0
  · rw [decide_eq_true e0, decide_eq_true (show k ≤ s.length by omega)]; rfl
  · rw [decide_eq_false e0, Bool.false_or, Bool.false_or]
    have c1 := h.cnt (k - 1)
    have c2 := h.cnt k
    rw [show ((k - 1 : Nat) : Int) = (k : Int) - 1 by omega] at c1
    by_cases e1 : k ≤ s.length
    · rw [decide_eq_true e1, Bool.true_and]
      by_cases e2 : k = s.length
      · rw [decide_eq_true e2, Bool.true_or]
        have h1 : s.getD k 0 = 0 := by rw [List.getD_eq_getElem?_getD, List.getElem?_eq_none (by omega)]; rfl
        have h2 := shape_at h.sh (i := k - 1) (by omega)
        exact decide_eq_true (by omega)
      · rw [decide_eq_false e2, Bool.false_or]
        by_cases q : s.getD k 0 < s.getD (k - 1) 0
        · rw [decide_eq_true q]; exact decide_eq_true (by omega)
        · rw [decide_eq_false q]; exact decide_eq_false (by omega)
    · rw [decide_eq_false e1, Bool.false_and]
      have h1 : s.getD (k - 1) 0 = 0 := by rw [List.getD_eq_getElem?_getD, List.getElem?_eq_none (by omega)]; rfl
      exact decide_eq_false (by omega)
theorem ShapeOf.nexts {row s : List Int} (h : ShapeOf row s) : nextR row = (widerF s).map fun p => row ++ [(p.1 : Int)] := by
  unfold nextR widerF
  rw [List.map_map]
  have hl := h.le
  have e : List.range (row.length + 1) = List.range (s.length + 1) ++ (List.range (row.length - s.length)).map (s.length + 1 + ·) := by
    rw [← List.range_add]; congr 1; omega
  rw [e, List.filter_append, List.map_append]
  have e1 : ((List.range (row.length - s.length)).map (s.length + 1 + ·)).filter (condR row) = [] := by
    rw [List.filter_eq_nil_iff]
    intro k hk
    obtain ⟨j, _, rfl⟩ := List.mem_map.mp hk
    rw [h.cond, decide_eq_false (by omega)]
    simp
  have e2 : (List.range (s.length + 1)).filter (condR row) = (List.range (s.length + 1)).filter (condW s) := by
    apply List.filter_congr
    intro k hk
    have := List.mem_range.mp hk
    rw [h.cond, decide_eq_true (show k ≤ s.length by omega), Bool.true_and]
  rw [e1, e2, List.map_nil, List.append_nil]
  rfl
/-! ### level by level, and from a row on -/
def rowsF : Nat → List (List Int)
  | 0 => [[]]
  | n + 1 => (rowsF n).flatMap nextR
def allR : List Int → Nat → List (List Int)
  | row, 0 => [row]
  | row, n + 1 => (nextR row).flatMap fun p => allR p n
theorem allR_snoc : ∀ (n : Nat) (row : List Int), allR row (n + 1) = (allR row n).flatMap nextR
  | 0, row => by
    show (nextR row).flatMap (fun p => [p]) = [row].flatMap nextR
    rw [List.flatMap_singleton]
    exact List.flatMap_singleton' _
  | n + 1, row => by
    show (nextR row).flatMap (fun p => allR p (n + 1)) = ((nextR row).flatMap fun p => allR p n).flatMap nextR
    rw [List.flatMap_assoc]
    congr 1
    funext p
    exact allR_snoc n p
theorem rows_all : ∀ n : Nat, rowsF n = allR [] n
  | 0 => rfl
  | n + 1 => by rw [allR_snoc, ← rows_all n]; rfl
theorem allR_gen : ∀ (n : Nat) {row s : List Int}, ShapeOf row s → allR row n = (genR s n).map fun t => row ++ t
  | 0, row, s, h => by show [row] = [row ++ []]; rw [List.append_nil]
  | n + 1, row, s, h => by
    show (nextR row).flatMap (fun p => allR p n) = ((widerF s).flatMap _).map _
    rw [h.nexts, List.flatMap_map, List.map_flatMap, List.flatMap_def, List.flatMap_def]
    congr 1
    apply List.map_congr_left
    intro p hp
    rw [allR_gen n (h.next hp), List.map_map]
    apply List.map_congr_left
    intro t _
    show row ++ [(p.1 : Int)] ++ t = row ++ (p.1 : Int) :: t
    rw [List.append_assoc]
    rfl
theorem rows_gen (n : Nat) : rowsF n = genR [] n := by
  rw [rows_all, allR_gen n shapeOf_nil]
  exact List.map_id' _
/-! ### good rows -/
theorem leftF_app {row : List Int} {j : Nat} (h : j < row.length) (t : List Int) : leftF (row ++ t) j = leftF row j := by
  unfold leftF
  have e1 : (row ++ t).getD j 0 = row.getD j 0 := by rw [List.getD_eq_getElem?_getD, List.getD_eq_getElem?_getD, List.getElem?_append_left h]
  have e2 : (row ++ t).take j = row.take j := List.take_append_of_le_length (by omega)
  rw [e1, e2]
theorem leftF_last (row : List Int) (x : Int) : leftF (row ++ [x]) row.length = if x ≤ 0 then (if x = 0 then 1 else 0) else ((row.count (x - 1) : Nat) : Int) - ((row.count x : Nat) : Int) := by
  unfold leftF
  have e1 : (row ++ [x]).getD row.length 0 = x := by rw [List.getD_eq_getElem?_getD, List.getElem?_append_right (Nat.le_refl _), Nat.sub_self]; rfl
  have e2 : (row ++ [x]).take row.length = row := List.take_left
  rw [e1, e2]
theorem good_snoc {row : List Int} {x : Int} : Good (row ++ [x]) ↔ Good row ∧ 1 ≤ leftF (row ++ [x]) row.length := by
  constructor
  · intro h
    refine ⟨fun i hi => ?_, h _ (by simp)⟩
    rw [← leftF_app hi [x]]
    exact h i (by rw [List.length_append]; omega)
  · rintro ⟨h1, h2⟩ i hi
    rw [List.length_append, List.length_singleton] at hi
    by_cases e : i = row.length
    · rw [e]; exact h2
    · rw [leftF_app (by omega)]; exact h1 i (by omega)
theorem ShapeOf.good {row s : List Int} (h : ShapeOf row s) {k : Nat} : 1 ≤ leftF (row ++ [(k : Int)]) row.length ↔ k ≤ s.length ∧ condW s k = true := by
  rw [leftF_last]
  have hc := h.cond k
  have e : (k ≤ s.length ∧ condW s k = true) ↔ condR row k = true := by rw [hc, Bool.and_eq_true, decide_eq_true_eq]
  rw [e]
  unfold condR
  rw [Bool.or_eq_true, decide_eq_true_eq, decide_eq_true_eq]
  by_cases e0 : k = 0
  · subst e0; simp
  · rw [if_neg (by omega)]; omega
theorem gen_good : ∀ (n : Nat) {row s t : List Int}, ShapeOf row s → Good row → t ∈ genR s n → Good (row ++ t) ∧ t.length = n
  | 0, row, s, t, h, hg, ht => by rw [List.mem_singleton.mp ht, List.append_nil]; exact ⟨hg, rfl⟩
  | n + 1, row, s, t, h, hg, ht => by
    obtain ⟨p, hp, ht2⟩ := List.mem_flatMap.mp ht
    obtain ⟨u, hu, rfl⟩ := List.mem_map.mp ht2
    obtain ⟨h1, h2, h3⟩ := wider_mem hp
    have hg2 : Good (row ++ [(p.1 : Int)]) := good_snoc.mpr ⟨hg, h.good.mpr ⟨h1, h2⟩⟩
    obtain ⟨h4, h5⟩ := gen_good n (h.next hp) hg2 hu
    rw [List.append_assoc] at h4
    exact ⟨h4, by rw [List.length_cons, h5]⟩
theorem good_nil : Good [] := fun i hi => absurd hi (Nat.not_lt_zero _)
theorem gen_ok {n : Nat} {t : List Int} (h : t ∈ genR [] n) : Good t ∧ t.length = n := by
  have := gen_good n shapeOf_nil good_nil h
  exact this
/-- what comes in a good row -/
theorem ShapeOf.step {row s : List Int} (h : ShapeOf row s) {x : Int} (hx : 1 ≤ leftF (row ++ [x]) row.length) : ∃ k : Nat, x = (k : Int) ∧ (k, bumpF s k) ∈ widerF s := by
  have h0 : 0 ≤ x := by
    rw [leftF_last] at hx
    by_cases q : x ≤ 0
    · rw [if_pos q] at hx
      by_cases z : x = 0
      · omega
      · rw [if_neg z] at hx; omega
    · omega
  refine ⟨x.toNat, by omega, ?_⟩
  have e : x = ((x.toNat : Nat) : Int) := by omega
  rw [e] at hx
  obtain ⟨h1, h2⟩ := h.good.mp hx
  exact mem_wider h1 h2
theorem gen_mem : ∀ (t : List Int) {row s : List Int}, ShapeOf row s → Good (row ++ t) → t ∈ genR s t.length
  | [], row, s, h, hg => List.mem_singleton.mpr rfl
  | x :: t, row, s, h, hg => by
    have e : row ++ x :: t = (row ++ [x]) ++ t := by rw [List.append_assoc]; rfl
    have hx : 1 ≤ leftF (row ++ [x]) row.length := by
      have := hg row.length (by rw [List.length_append, List.length_cons]; omega)
      rw [e, leftF_app (by simp)] at this
      exact this
    obtain ⟨k, rfl, hk⟩ := h.step hx
    rw [e] at hg
    have := gen_mem t (h.next hk) hg
    exact List.mem_flatMap.mpr ⟨_, hk, List.mem_map.mpr ⟨t, this, rfl⟩⟩
theorem mem_gen {t : List Int} (h : Good t) : t ∈ genR [] t.length := gen_mem t shapeOf_nil h
/-! ### the number of a row -/
def lowF (s : List Int) (x : Int) (n : Nat) : Int := (((widerF s).filter fun p => decide ((p.1 : Int) < x)).map fun p => waysF p.2 n).sum
def rankF : List Int → List Int → Int
  | _, [] => 0
  | s, x :: r => lowF s x r.length + rankF (bumpF s x.toNat) r
theorem flat_split {α β : Type} (F : α → List β) : ∀ (l : List α) (k : Nat) (y : β), (l.flatMap F)[k]? = some y → ∃ pre a post j, l = pre ++ a :: post ∧ (F a)[j]? = some y ∧ k = (pre.flatMap F).length + j
  | [], k, y, h => by simp at h
  | a :: l, k, y, h => by
    rw [List.flatMap_cons] at h
    by_cases hk : k < (F a).length
    · rw [List.getElem?_append_left hk] at h
      exact ⟨[], a, l, k, rfl, h, by simp⟩
    · rw [List.getElem?_append_right (by omega)] at h
      obtain ⟨pre, b, post, j, h1, h2, h3⟩ := flat_split F l _ y h
      exact ⟨a :: pre, b, post, j, by rw [h1]; rfl, h2, by rw [List.flatMap_cons, List.length_append]; omega⟩
theorem filter_split {l pre post : List (Nat × List Int)} {a : Nat × List Int} (hr : l.Pairwise fun p q => p.1 < q.1) (h : l = pre ++ a :: post) : (l.filter fun p => decide ((p.1 : Int) < (a.1 : Int))) = pre := by
  subst h
  obtain ⟨h1, h2, h3⟩ := List.pairwise_append.mp hr
  obtain ⟨h4, h5⟩ := List.pairwise_cons.mp h2
  rw [List.filter_append]
  have e1 : pre.filter (fun p => decide ((p.1 : Int) < (a.1 : Int))) = pre := List.filter_eq_self.mpr fun p hp => decide_eq_true (by have := h3 p hp a (List.mem_cons_self ..); omega)
  have e2 : (a :: post).filter (fun p => decide ((p.1 : Int) < (a.1 : Int))) = [] := by
    rw [List.filter_eq_nil_iff]
    intro p hp
    simp only [decide_eq_true_eq]
    rcases List.mem_cons.mp hp with q | q
    · rw [q]; omega
    · have := h4 p q; omega
  rw [e1, e2, List.append_nil]
theorem low_split {s : List Int} {pre post : List (Nat × List Int)} {a : Nat × List Int} (h : widerF s = pre ++ a :: post) (n : Nat) : lowF s (a.1 : Int) n = (((pre.flatMap fun p => (genR p.2 n).map fun t => (p.1 : Int) :: t)).length : Int) := by
  unfold lowF
  rw [filter_split (wider_rise s) h, flatLen]
  congr 1
  apply List.map_congr_left
  intro p _
  rw [List.length_map, genR_len]
theorem rank_get : ∀ (n : Nat) (s : List Int) (k : Nat) (t : List Int), (genR s n)[k]? = some t → rankF s t = (k : Int) ∧ t.length = n
  | 0, s, k, t, h => by
    cases k with
    | zero => cases h; exact ⟨rfl, rfl⟩
    | succ k => simp [genR] at h
  | n + 1, s, k, t, h => by
    obtain ⟨pre, a, post, j, h1, h2, h3⟩ := flat_split _ (widerF s) k t h
    rw [List.getElem?_map] at h2
    obtain ⟨u, hu, rfl⟩ := Option.map_eq_some_iff.mp h2
    obtain ⟨h4, h5⟩ := rank_get n a.2 j u hu
    have ha : a ∈ widerF s := by rw [h1]; simp
    obtain ⟨q1, q2, q3⟩ := wider_mem ha
    refine ⟨?_, by rw [List.length_cons, h5]⟩
    show lowF s (a.1 : Int) u.length + rankF (bumpF s ((a.1 : Int)).toNat) u = (k : Int)
    rw [h5, Int.toNat_natCast, ← q3, h4, low_split h1, h3]
    omega
/-- the row of a number -/
def rowF (n : Nat) (k : Int) : List Int := (genR [] n).getD k.toNat []
theorem rowF_at {n : Nat} {k : Int} (h0 : 0 ≤ k) (h1 : k < waysF [] n) : (genR [] n)[k.toNat]? = some (rowF n k) := by
  have hl := genR_len n []
  unfold rowF
  rw [List.getD_eq_getElem?_getD, List.getElem?_eq_getElem (show k.toNat < (genR [] n).length by omega)]
  rfl
theorem rank_row {n : Nat} {k : Int} (h0 : 0 ≤ k) (h1 : k < waysF [] n) : rankF [] (rowF n k) = k := by
  rw [(rank_get n [] _ _ (rowF_at h0 h1)).1]; omega
theorem row_ok {n : Nat} {k : Int} (h0 : 0 ≤ k) (h1 : k < waysF [] n) : Good (rowF n k) ∧ (rowF n k).length = n := gen_ok (List.mem_of_getElem? (rowF_at h0 h1))
theorem row_rank {t : List Int} (h : Good t) : 0 ≤ rankF [] t ∧ rankF [] t < waysF [] t.length ∧ rowF t.length (rankF [] t) = t := by
  obtain ⟨k, hk⟩ := List.getElem?_of_mem (mem_gen h)
  have h1 := (rank_get _ [] k t hk).1
  have h2 := (List.getElem?_eq_some_iff.mp hk).1
  have hl := genR_len t.length []
  rw [h1]
  refine ⟨by omega, by omega, ?_⟩
  unfold rowF
  rw [Int.toNat_natCast, List.getD_eq_getElem?_getD, hk]
  rfl
theorem rows_by (n : Nat) : rowsF n = (List.range (waysF [] n).toNat).map fun k : Nat => rowF n (k : Int) := by
  rw [rows_gen]
  have hl := genR_len n []
  apply List.ext_getElem?
  intro i
  rw [List.getElem?_map]
  by_cases hi : i < (genR [] n).length
  · rw [List.getElem?_range (by omega), List.getElem?_eq_getElem hi]
    show _ = some (rowF n (i : Int))
    unfold rowF
    rw [Int.toNat_natCast, List.getD_eq_getElem?_getD, List.getElem?_eq_getElem hi]
    rfl
  · rw [List.getElem?_eq_none (by omega), List.getElem?_eq_none (by rw [List.length_range]; omega)]
    rfl
theorem gen_rise : ∀ (n : Nat) (s : List Int), (genR s n).Pairwise (· < ·)
  | 0, s => by show ([[]] : List (List Int)).Pairwise _; simp
  | n + 1, s => by
    show ((widerF s).flatMap _).Pairwise _
    rw [List.pairwise_flatMap]
    refine ⟨fun p _ => ?_, (wider_rise s).imp fun {p q} h x hx y hy => ?_⟩
    · rw [List.pairwise_map]
      exact (gen_rise n p.2).imp fun {a b} h => List.cons_lt_cons_iff.mpr (.inr ⟨rfl, h⟩)
    · obtain ⟨u, _, rfl⟩ := List.mem_map.mp hx
      obtain ⟨v, _, rfl⟩ := List.mem_map.mp hy
      exact List.cons_lt_cons_iff.mpr (.inl (by omega))
theorem rowF_le {n : Nat} {x y : Int} (h0 : 0 ≤ x) (h1 : x ≤ y) (h2 : y < waysF [] n) : ¬ rowF n y < rowF n x := by
  by_cases e : x = y
  · rw [e]; exact List.lt_irrefl _
  · have hl := genR_len n []
    have a1 := rowF_at h0 (n := n) (by omega)
    have a2 := rowF_at (k := y) (n := n) (by omega) h2
    obtain ⟨b1, c1⟩ := List.getElem?_eq_some_iff.mp a1
    obtain ⟨b2, c2⟩ := List.getElem?_eq_some_iff.mp a2
    have := List.pairwise_iff_getElem.mp (gen_rise n []) x.toNat y.toNat b1 b2 (by omega)
    rw [c1, c2] at this
    exact List.lt_asymm this
end Oa
namespace Oa
/-! ### numbers on paper -/
def inv2 : Nat → Int × Int
  | 0 => (1, 1)
  | n + 1 => ((inv2 n).2, (inv2 n).2 + ((n + 1 : Nat) : Int) * (inv2 n).1)
theorem ways_inv : ∀ n : Nat, waysF [] n = (inv2 n).1 ∧ waysF [] (n + 1) = (inv2 n).2
  | 0 => ⟨rfl, by decide⟩
  | n + 1 => by
    obtain ⟨h1, h2⟩ := ways_inv n
    refine ⟨h2, ?_⟩
    rw [ways_nil (n + 1), h2, show n + 1 - 1 = n from rfl, h1]
    rfl
theorem wider_nil : widerF [] = [(0, [1])] := by decide
theorem ways_one (n : Nat) : waysF [1] n = waysF [] (n + 1) := by
  show _ = ((widerF []).map fun p => waysF p.2 n).sum
  rw [wider_nil]
  simp
theorem isShape_two : IsShape [2] := ⟨by simp, by simp⟩
def inv3 : Nat → Int × Int
  | 0 => (1, 2)
  | n + 1 => ((inv3 n).2, (inv2 (n + 2)).1 + (inv3 n).2 + ((n + 1 : Nat) : Int) * (inv3 n).1)
theorem ways_two_rec (n : Nat) : waysF [2] (n + 1) = waysF [] (n + 1) + waysF [2] n + (n : Int) * waysF [2] (n - 1) := by
  rw [ways_rec (M := (n : Int) + 4) n isShape_two (by show (2 : Int) + (n : Int) + 1 < _; omega)]
  have : dnF [2] = [[1]] := by decide
  rw [this, sumOf_cons, sumOf_nil, Int.add_zero, ways_one]
theorem ways_two : ∀ n : Nat, waysF [2] n = (inv3 n).1 ∧ waysF [2] (n + 1) = (inv3 n).2
  | 0 => ⟨rfl, by decide⟩
  | n + 1 => by
    obtain ⟨h1, h2⟩ := ways_two n
    refine ⟨h2, ?_⟩
    rw [ways_two_rec (n + 1), h2, show n + 1 - 1 = n from rfl, h1, (ways_inv (n + 2)).1]
    rfl
theorem ways_20 : waysF [] 20 = 23758664096 := by rw [(ways_inv 20).1]; decide +kernel
theorem ways_2_18 : waysF [2] 18 = 11879332048 := by rw [(ways_two 18).1]; decide +kernel
/-- the first row, the last row from a shape on -/
theorem low_zero (s : List Int) (n : Nat) : lowF s 0 n = 0 := by
  unfold lowF
  rw [List.filter_eq_nil_iff.mpr]
  · rfl
  · intro p _
    simp only [decide_eq_true_eq]
    omega
theorem rank_zeros : ∀ (n : Nat) (s : List Int), rankF s (List.replicate n 0) = 0
  | 0, s => rfl
  | n + 1, s => by
    rw [List.replicate_succ]
    show lowF s 0 _ + rankF _ (List.replicate n 0) = 0
    rw [low_zero, rank_zeros n]
    rfl
def lastR (l : Nat) : Nat → List Int
  | 0 => []
  | n + 1 => (l : Int) :: lastR (l + 1) n
theorem lastR_len : ∀ (n l : Nat), (lastR l n).length = n
  | 0, _ => rfl
  | n + 1, l => by show (lastR (l + 1) n).length + 1 = n + 1; rw [lastR_len n]
theorem wider_last (s : List Int) : widerF s = ((List.range s.length).filter (condW s)).map (fun i => (i, bumpF s i)) ++ [(s.length, bumpF s s.length)] := by
  unfold widerF
  have h : condW s s.length = true := by unfold condW; rw [decide_eq_true rfl]; simp
  rw [List.range_succ, List.filter_append, List.map_append, List.filter_cons, if_pos h]
  rfl
theorem bump_last (s : List Int) : (bumpF s s.length).length = s.length + 1 := by
  unfold bumpF
  rw [List.take_length, if_neg (by omega), List.drop_of_length_le (by omega)]
  simp
theorem rank_last : ∀ (n : Nat) (s : List Int), rankF s (lastR s.length n) = waysF s n - 1
  | 0, s => rfl
  | n + 1, s => by
    show lowF s (s.length : Int) (lastR (s.length + 1) n).length + rankF (bumpF s ((s.length : Int)).toNat) (lastR (s.length + 1) n) = _
    rw [lastR_len, Int.toNat_natCast, ← bump_last s, rank_last n, low_split (wider_last s), ← genR_len n (bumpF s s.length), ← genR_len (n + 1) s]
    have e : genR s (n + 1) = ((((List.range s.length).filter (condW s)).map fun i => (i, bumpF s i)) ++ [(s.length, bumpF s s.length)]).flatMap fun p => (genR p.2 n).map fun t => (p.1 : Int) :: t := by
      rw [← wider_last s]; rfl
    rw [e, List.flatMap_append, List.length_append, List.flatMap_singleton, List.length_map]
    dsimp only
    omega
/-! ### how many keys there can be -/
def encS : List Int → Nat
  | [] => 0
  | a :: r => 2 ^ (a.toNat - 1) * (2 * encS r + 1)
theorem encS_lt : ∀ {s : List Int}, (∀ x ∈ s, 1 ≤ x) → encS s < 2 ^ s.sum.toNat
  | [], _ => by decide
  | a :: r, h => by
    have h1 := h a (List.mem_cons_self ..)
    have hr : ∀ x ∈ r, 1 ≤ x := fun x hx => h x (List.mem_cons_of_mem _ hx)
    have h2 := encS_lt hr
    have h3 := shape_len hr
    have e : (a :: r).sum.toNat = (a.toNat - 1) + (r.sum.toNat + 1) := by rw [List.sum_cons]; omega
    rw [e, Nat.pow_add]
    show 2 ^ (a.toNat - 1) * (2 * encS r + 1) < _
    refine Nat.mul_lt_mul_of_pos_left ?_ (Nat.pow_pos (by decide))
    rw [Nat.pow_succ]
    omega
theorem odd_inj : ∀ (i j x y : Nat), 2 ^ i * (2 * x + 1) = 2 ^ j * (2 * y + 1) → i = j ∧ x = y
  | 0, 0, x, y, h => by simp at h; omega
  | 0, j + 1, x, y, h => by
    have e2 : 2 ^ (j + 1) * (2 * y + 1) = 2 * (2 ^ j * (2 * y + 1)) := by rw [Nat.pow_succ, Nat.mul_comm (2 ^ j) 2, Nat.mul_assoc]
    rw [e2] at h
    simp only [Nat.pow_zero, Nat.one_mul] at h
    omega
  | i + 1, 0, x, y, h => by
    have e1 : 2 ^ (i + 1) * (2 * x + 1) = 2 * (2 ^ i * (2 * x + 1)) := by rw [Nat.pow_succ, Nat.mul_comm (2 ^ i) 2, Nat.mul_assoc]
    rw [e1] at h
    simp only [Nat.pow_zero, Nat.one_mul] at h
    omega
  | i + 1, j + 1, x, y, h => by
    have e1 : 2 ^ (i + 1) * (2 * x + 1) = 2 * (2 ^ i * (2 * x + 1)) := by rw [Nat.pow_succ, Nat.mul_comm (2 ^ i) 2, Nat.mul_assoc]
    have e2 : 2 ^ (j + 1) * (2 * y + 1) = 2 * (2 ^ j * (2 * y + 1)) := by rw [Nat.pow_succ, Nat.mul_comm (2 ^ j) 2, Nat.mul_assoc]
    rw [e1, e2] at h
    obtain ⟨h1, h2⟩ := odd_inj i j x y (by omega)
    exact ⟨by omega, h2⟩
theorem encS_inj : ∀ {s t : List Int}, (∀ x ∈ s, 1 ≤ x) → (∀ x ∈ t, 1 ≤ x) → encS s = encS t → s = t
  | [], [], _, _, _ => rfl
  | [], b :: t, _, _, h => by
    have : 0 < 2 ^ (b.toNat - 1) * (2 * encS t + 1) := Nat.mul_pos (Nat.pow_pos (by decide)) (by omega)
    have h' : 0 = 2 ^ (b.toNat - 1) * (2 * encS t + 1) := h
    omega
  | a :: s, [], _, _, h => by
    have : 0 < 2 ^ (a.toNat - 1) * (2 * encS s + 1) := Nat.mul_pos (Nat.pow_pos (by decide)) (by omega)
    have h' : 2 ^ (a.toNat - 1) * (2 * encS s + 1) = 0 := h
    omega
  | a :: s, b :: t, hs, ht, h => by
    have h1 := hs a (List.mem_cons_self ..)
    have h2 := ht b (List.mem_cons_self ..)
    obtain ⟨h3, h4⟩ := odd_inj _ _ _ _ (show 2 ^ (a.toNat - 1) * (2 * encS s + 1) = 2 ^ (b.toNat - 1) * (2 * encS t + 1) from h)
    rw [encS_inj (fun x hx => hs x (List.mem_cons_of_mem _ hx)) (fun x hx => ht x (List.mem_cons_of_mem _ hx)) h4]
    congr 1
    omega
theorem nodup_lt : ∀ (B : Nat) (l : List Nat), l.Nodup → (∀ x ∈ l, x < B) → l.length ≤ B
  | 0, l, _, h => by
    cases l with
    | nil => exact Nat.le_refl _
    | cons a r => exact absurd (h a (List.mem_cons_self ..)) (Nat.not_lt_zero _)
  | B + 1, l, hn, h => by
    have h1 := nodup_lt B (l.filter fun x => decide (x ≠ B)) (hn.filter _) fun x hx => by
      obtain ⟨q1, q2⟩ := List.mem_filter.mp hx
      have := h x q1
      have q3 : x ≠ B := of_decide_eq_true q2
      omega
    have h2 : l.length = (l.filter fun x => decide (x ≠ B)).length + l.count B := by
      clear h1 hn h
      induction l with
      | nil => rfl
      | cons a r ih =>
        rw [List.filter_cons, List.count_cons, List.length_cons, ih]
        by_cases e : a = B
        · rw [if_neg (by simpa using e), e]; simp; omega
        · rw [if_pos (by simpa using e), beq_eq_false_iff_ne.mpr e]; simp; omega
    have h3 := List.nodup_iff_count.mp hn B
    omega
/-! ### more on paper -/
theorem good_zeros (n : Nat) : Good (List.replicate n 0) := by
  intro i hi
  unfold leftF
  rw [List.length_replicate] at hi
  have : (List.replicate n (0 : Int)).getD i 0 = 0 := by rw [List.getD_eq_getElem?_getD, List.getElem?_replicate, if_pos hi]; rfl
  rw [this, if_pos (by decide), if_pos rfl]
  decide
theorem row_first (n : Nat) : rowF n 0 = List.replicate n 0 := by
  have := (row_rank (good_zeros n)).2.2
  rw [rank_zeros, List.length_replicate] at this
  exact this
theorem gen_small : ∀ (n : Nat) (s t : List Int), t ∈ genR s n → ∀ x ∈ t, 0 ≤ x ∧ x ≤ (s.length : Int) + (n : Int)
  | 0, s, t, ht, x, hx => by rw [List.mem_singleton.mp ht] at hx; cases hx
  | n + 1, s, t, ht, x, hx => by
    obtain ⟨p, hp, ht2⟩ := List.mem_flatMap.mp ht
    obtain ⟨u, hu, rfl⟩ := List.mem_map.mp ht2
    obtain ⟨h1, h2, h3⟩ := wider_mem hp
    have hl : p.2.length ≤ s.length + 1 := by
      rw [h3]
      unfold bumpF
      rw [List.length_append, List.length_append, List.length_take, List.length_drop, List.length_singleton]
      omega
    rcases List.mem_cons.mp hx with q | q
    · rw [q]; omega
    · have := gen_small n p.2 u hu x q
      omega
def last20 : List Int := (List.range 20).map fun i : Nat => (i : Int)
def mid19 : List Int := 0 :: (List.range 19).map fun i : Nat => (i : Int)
def mid20 : List Int := [0, 1] ++ List.replicate 18 0
theorem last20_eq : last20 = lastR 0 20 := by decide
theorem mid19_eq : mid19 = 0 :: 0 :: lastR 1 18 := by decide
theorem rank_cons (s : List Int) (x : Int) (r : List Int) : rankF s (x :: r) = lowF s x r.length + rankF (bumpF s x.toNat) r := rfl
theorem rank_last20 : rankF [] last20 = 23758664095 := by
  have h := rank_last 20 []
  rw [ways_20] at h
  rw [last20_eq]
  exact h
theorem bump_00 : bumpF [] (0 : Int).toNat = [1] := by decide
theorem bump_10 : bumpF [1] (0 : Int).toNat = [2] := by decide
theorem rank_mid19 : rankF [] mid19 = 11879332047 := by
  have h := rank_last 18 [2]
  rw [ways_2_18] at h
  rw [mid19_eq, rank_cons, rank_cons, low_zero, low_zero, bump_00, bump_10, Int.zero_add, Int.zero_add]
  exact h
theorem wider_1 : widerF [1] = [(0, [2]), (1, [1, 1])] := by decide
theorem low_1 (n : Nat) : lowF [1] 1 n = waysF [2] n := by
  unfold lowF
  rw [wider_1]
  show (([(0, [2])] : List (Nat × List Int)).map fun p => waysF p.2 n).sum = _
  simp
theorem rank_mid20 : rankF [] mid20 = 11879332048 := by
  have e : mid20 = 0 :: 1 :: List.replicate 18 0 := rfl
  rw [e, rank_cons, rank_cons, low_zero, bump_00, low_1, rank_zeros, List.length_replicate, ways_2_18]
  rfl
end Oa
/-! how many rows have a shape, by how far each square sees -/
namespace Oa
def cntF (t : List Int) (p : Int) : Int := ((t.filter fun x => decide (p < x)).length : Int)
def rowP (a : Int) (t : List Int) : Nat → Int
  | 0 => 1
  | p + 1 => rowP a t p * (a - (p : Int) + cntF t (p : Int))
def hookF : List Int → Int
  | [] => 1
  | a :: t => rowP a t a.toNat * hookF t
def topF : Nat → Int
  | 0 => 1
  | n + 1 => topF n * ((n : Int) + 1)
def ofF (s : List Int) : Int := topF s.sum.toNat / hookF s
def turnedF (s : List Int) : List Int := (List.range (s.getD 0 0).toNat).map fun p : Nat => cntF s (p : Int)
/-! ### the same in naturals, for the kernel -/
noncomputable def cntN (t : List Nat) (p : Nat) : Nat := List.rec (motive := fun _ => Nat) 0 (fun b _ ih => bif Nat.blt p b then ih + 1 else ih) t
noncomputable def rowN (a : Nat) (t : List Nat) (n : Nat) : Nat := Nat.rec (motive := fun _ => Nat) 1 (fun p ih => ih * (a - p + cntN t p)) n
noncomputable def hookN (s : List Nat) : Nat := List.rec (motive := fun _ => Nat) 1 (fun a t ih => rowN a t a * ih) s
noncomputable def topN (n : Nat) : Nat := Nat.rec (motive := fun _ => Nat) 1 (fun k ih => ih * (k + 1)) n
noncomputable def sumN (s : List Nat) : Nat := List.rec (motive := fun _ => Nat) 0 (fun a _ ih => a + ih) s
noncomputable def ofN (s : List Nat) : Nat := topN (sumN s) / hookN s
def hd (s : List Nat) : Nat := match s with | [] => 0 | a :: _ => a
noncomputable def turnN (s : List Nat) : List Nat := (List.range (hd s)).map (cntN s)
noncomputable def dnN (s : List Nat) : List (List Nat) := List.rec (motive := fun _ => List (List Nat)) [] (fun a t ih => (bif Nat.blt (hd t) a then [bif Nat.beq a 1 then t else (a - 1) :: t] else []) ++ ih.map fun x => a :: x) s
noncomputable def sumOfN (l : List (List Nat)) : Nat := List.rec (motive := fun _ => Nat) 0 (fun a _ ih => ofN a + ih) l
noncomputable def valN (s : List Nat) : Bool := List.rec (motive := fun _ => Bool) true (fun a t ih => Nat.ble 1 a && Nat.ble (hd t) a && ih) s
noncomputable def chkN (s : List Nat) : Bool := match s with
  | [] => true
  | _ :: _ => Nat.beq (ofN (turnN s)) (ofN s) && (Nat.beq (sumN (turnN s)) (sumN s) && (valN (turnN s) && Nat.beq (ofN s) (sumOfN (dnN s))))
/-- all shapes of at most n, no more than m in the first -/
def partsN : Nat → Nat → Nat → List (List Nat)
  | 0, _, _ => [[]]
  | f + 1, n, m => [] :: (List.range (min n m)).flatMap fun a => (partsN f (n - (a + 1)) (a + 1)).map fun t => (a + 1) :: t
theorem partsN_mem : ∀ (f n m : Nat) (s : List Nat), n ≤ f → (∀ x ∈ s, 1 ≤ x) → s.Pairwise (fun a b => b ≤ a) → s.sum ≤ n → (∀ x ∈ s, x ≤ m) → s ∈ partsN f n m
  | 0, n, m, s, hf, h1, h2, h3, h4 => by
    cases s with
    | nil => exact List.mem_singleton.mpr rfl
    | cons a t =>
      have := h1 a (List.mem_cons_self ..)
      rw [List.sum_cons] at h3
      omega
  | f + 1, n, m, s, hf, h1, h2, h3, h4 => by
    cases s with
    | nil => exact List.mem_cons_self ..
    | cons a t =>
      have ha := h1 a (List.mem_cons_self ..)
      have hm := h4 a (List.mem_cons_self ..)
      rw [List.sum_cons] at h3
      obtain ⟨p1, p2⟩ := List.pairwise_cons.mp h2
      refine List.mem_cons_of_mem _ (List.mem_flatMap.mpr ⟨a - 1, List.mem_range.mpr (by omega), List.mem_map.mpr ⟨t, ?_, by rw [Nat.sub_add_cancel ha]⟩⟩)
      rw [Nat.sub_add_cancel ha]
      exact partsN_mem f _ _ t (by omega) (fun x hx => h1 x (List.mem_cons_of_mem _ hx)) p2 (by omega) p1
/-! ### the two agree -/
def upL (s : List Nat) : List Int := s.map fun n : Nat => (n : Int)
theorem upL_nil : upL [] = [] := rfl
theorem upL_cons (a : Nat) (s : List Nat) : upL (a :: s) = (a : Int) :: upL s := rfl
theorem cnt_up (p : Nat) : ∀ t : List Nat, cntF (upL t) (p : Int) = (cntN t p : Int)
  | [] => rfl
  | b :: t => by
    have ih := cnt_up p t
    have e1 : cntN (b :: t) p = bif Nat.blt p b then cntN t p + 1 else cntN t p := rfl
    unfold cntF at ih ⊢
    rw [upL_cons, List.filter_cons, e1]
    by_cases h : p < b
    · have h2 : Nat.blt p b = true := Nat.ble_eq.mpr h
      rw [if_pos (by simpa using h), h2, List.length_cons]
      show _ = ((cntN t p + 1 : Nat) : Int)
      omega
    · have h2 : Nat.blt p b = false := by
        cases hc : Nat.blt p b with
        | false => rfl
        | true => exact absurd (Nat.ble_eq.mp hc) h
      rw [if_neg (by simpa using h), h2]
      exact ih
theorem row_up (a : Nat) (t : List Nat) : ∀ n : Nat, n ≤ a → rowP (a : Int) (upL t) n = (rowN a t n : Int)
  | 0, _ => rfl
  | n + 1, h => by
    have e1 : rowN a t (n + 1) = rowN a t n * (a - n + cntN t n) := rfl
    unfold rowP
    rw [row_up a t n (by omega), cnt_up, e1, Int.natCast_mul, Int.natCast_add, Int.natCast_sub (by omega)]
theorem hook_up : ∀ s : List Nat, hookF (upL s) = (hookN s : Int)
  | [] => rfl
  | a :: t => by
    have e1 : hookN (a :: t) = rowN a t a * hookN t := rfl
    rw [upL_cons]
    unfold hookF
    rw [Int.toNat_natCast, row_up a t a (Nat.le_refl _), hook_up t, e1, Int.natCast_mul]
theorem top_up : ∀ n : Nat, topF n = (topN n : Int)
  | 0 => rfl
  | n + 1 => by
    have e1 : topN (n + 1) = topN n * (n + 1) := rfl
    unfold topF
    rw [top_up n, e1, Int.natCast_mul]
    rfl
theorem sum_up : ∀ s : List Nat, (upL s).sum = (sumN s : Int)
  | [] => rfl
  | a :: t => by
    have e1 : sumN (a :: t) = a + sumN t := rfl
    rw [upL_cons, List.sum_cons, sum_up t, e1, Int.natCast_add]
theorem of_up (s : List Nat) : ofF (upL s) = (ofN s : Int) := by
  unfold ofF ofN
  rw [sum_up, Int.toNat_natCast, top_up, hook_up, Int.natCast_ediv]
theorem hd_up (s : List Nat) : (upL s).getD 0 0 = (hd s : Int) := by
  cases s with
  | nil => rfl
  | cons a t => rfl
theorem turn_up (s : List Nat) : turnedF (upL s) = upL (turnN s) := by
  unfold turnedF turnN
  rw [hd_up, Int.toNat_natCast]
  unfold upL
  rw [List.map_map]
  apply List.map_congr_left
  intro p _
  exact cnt_up p s
theorem blt_true {a b : Nat} : Nat.blt a b = true ↔ a < b := Iff.of_eq (Nat.ble_eq (x := a + 1) (y := b))
theorem blt_false {a b : Nat} (h : ¬ a < b) : Nat.blt a b = false := by
  cases hc : Nat.blt a b with
  | false => rfl
  | true => exact absurd (blt_true.mp hc) h
theorem beq_false {a b : Nat} (h : a ≠ b) : Nat.beq a b = false := by
  cases hc : Nat.beq a b with
  | false => rfl
  | true => exact absurd (Nat.eq_of_beq_eq_true hc) h
theorem dn_up : ∀ s : List Nat, dnF (upL s) = (dnN s).map upL
  | [] => rfl
  | a :: t => by
    have e1 : dnN (a :: t) = (bif Nat.blt (hd t) a then [bif Nat.beq a 1 then t else (a - 1) :: t] else []) ++ (dnN t).map fun x => a :: x := rfl
    rw [upL_cons]
    unfold dnF
    rw [e1, List.map_append, dn_up t, hd_up, List.map_map, List.map_map]
    congr 1
    by_cases h : hd t < a
    · rw [if_pos (by omega), blt_true.mpr h]
      show _ = [upL (bif Nat.beq a 1 then t else (a - 1) :: t)]
      unfold cons0
      by_cases h1 : a = 1
      · subst h1
        rw [if_pos (by decide)]
        rfl
      · rw [if_neg (by omega), show Nat.beq a 1 = false from beq_false h1]
        show _ = [((a - 1 : Nat) : Int) :: upL t]
        rw [Int.natCast_sub (by omega)]
        rfl
    · rw [if_neg (by omega), blt_false h]
      rfl
theorem sumOf_up : ∀ l : List (List Nat), sumOf ofF (l.map upL) = (sumOfN l : Int)
  | [] => rfl
  | a :: l => by
    have e1 : sumOfN (a :: l) = ofN a + sumOfN l := rfl
    rw [List.map_cons, sumOf_cons, sumOf_up l, of_up, e1, Int.natCast_add]
theorem val_up : ∀ s : List Nat, valN s = true → IsShape (upL s)
  | [], _ => isShape_nil
  | a :: t, h => by
    have e1 : valN (a :: t) = (Nat.ble 1 a && Nat.ble (hd t) a && valN t) := rfl
    rw [e1, Bool.and_eq_true, Bool.and_eq_true] at h
    have h1 := Nat.ble_eq.mp h.1.1
    have h2 := Nat.ble_eq.mp h.1.2
    rw [upL_cons]
    exact IsShape.cons (val_up t h.2) (by omega) (by rw [hd_up]; omega)
theorem up_of {s : List Int} (h : ∀ x ∈ s, 1 ≤ x) : upL (s.map Int.toNat) = s := by
  unfold upL
  rw [List.map_map]
  conv => rhs; rw [← List.map_id s]
  apply List.map_congr_left
  intro x hx
  have := h x hx
  show ((x.toNat : Nat) : Int) = x
  omega
theorem sumN_sum : ∀ s : List Nat, s.sum = sumN s
  | [] => rfl
  | a :: t => by rw [List.sum_cons, sumN_sum t]; rfl
theorem mem_le_sum : ∀ {s : List Nat} {x : Nat}, x ∈ s → x ≤ s.sum
  | a :: t, x, h => by
    rw [List.sum_cons]
    rcases List.mem_cons.mp h with q | q
    · omega
    · have := mem_le_sum q
      omega
theorem chk_all : (partsN 20 20 20).all chkN = true := by decide +kernel
theorem shape_chk {s : List Int} (h : IsShape s) (hs : s.sum ≤ 20) : ∃ m : List Nat, s = upL m ∧ chkN m = true := by
  have e := up_of h.2
  refine ⟨s.map Int.toNat, e.symm, ?_⟩
  have hsum : ((s.map Int.toNat).sum : Int) = s.sum := by rw [sumN_sum, ← sum_up, e]
  have hpos : ∀ x ∈ s.map Int.toNat, 1 ≤ x := fun x hx => by
    obtain ⟨y, hy, rfl⟩ := List.mem_map.mp hx
    have := h.2 y hy
    omega
  refine List.all_eq_true.mp chk_all _ (partsN_mem 20 20 20 _ (Nat.le_refl _) hpos ?_ (by omega) fun x hx => ?_)
  · refine List.Pairwise.map _ ?_ h.1
    intro a b hab
    omega
  · have := mem_le_sum hx
    omega
/-- turned, and with one less -/
theorem shape_turn {s : List Int} (h : IsShape s) (hs : s.sum ≤ 20) (h0 : s ≠ []) : ofF (turnedF s) = ofF s ∧ (turnedF s).sum = s.sum ∧ IsShape (turnedF s) ∧ ofF s = sumOf ofF (dnF s) := by
  obtain ⟨m, rfl, hc⟩ := shape_chk h hs
  cases m with
  | nil => exact absurd rfl h0
  | cons a t =>
    have e : chkN (a :: t) = (Nat.beq (ofN (turnN (a :: t))) (ofN (a :: t)) && (Nat.beq (sumN (turnN (a :: t))) (sumN (a :: t)) && (valN (turnN (a :: t)) && Nat.beq (ofN (a :: t)) (sumOfN (dnN (a :: t)))))) := rfl
    rw [e, Bool.and_eq_true, Bool.and_eq_true, Bool.and_eq_true] at hc
    obtain ⟨c1, c2, c3, c4⟩ := hc
    rw [turn_up, of_up, of_up, dn_up, sumOf_up, sum_up, sum_up, Nat.eq_of_beq_eq_true c1, Nat.eq_of_beq_eq_true c2, ← Nat.eq_of_beq_eq_true c4]
    exact ⟨rfl, rfl, val_up _ c3, rfl⟩
end Oa
/-! a dict from tuples of ints to ints, its keys sorted -/
namespace Oa
open PySem PySem.Spec PyProof.Rows L2 Evl
theorem perm_sum {l m : List Int} (h : l.Perm m) : l.sum = m.sum := by
  induction h with
  | nil => rfl
  | cons a _ ih => rw [List.sum_cons, List.sum_cons, ih]
  | swap a b l => simp only [List.sum_cons]; omega
  | trans _ _ h1 h2 => exact h1.trans h2
def tKey (s : List Int) : List Key := s.map Sum.inl
theorem tKey_kV (s : List Int) : (tKey s).map kV = s.map V.int := by
  unfold tKey
  rw [List.map_map]
  rfl
theorem tKey_inj {s t : List Int} (h : tKey s = tKey t) : s = t := by
  have := congrArg (List.map fun k : Key => match k with | .inl i => i | .inr _ => 0) h
  unfold tKey at this
  rw [List.map_map, List.map_map] at this
  have e : ((fun k : Key => match k with | .inl i => i | .inr _ => 0) ∘ Sum.inl) = (id : Int → Int) := rfl
  rw [e, List.map_id, List.map_id] at this
  exact this
abbrev Tal := List (List Int × Int)
def talD (m : Tal) : List (List Key × V) := m.map fun p => (tKey p.1, V.int p.2)
def getT (m : Tal) (s : List Int) : Option Int := (m.find? fun p => decide (p.1 = s)).map (·.2)
def putT (m : Tal) (s : List Int) (v : Int) : Tal := if (m.any fun p => decide (p.1 = s)) = true then m.map (fun p => if p.1 = s then (p.1, v) else p) else m ++ [(s, v)]
theorem talD_key (p : List Int × Int) (s : List Int) : decide ((tKey p.1, V.int p.2).1 = tKey s) = decide (p.1 = s) := by
  by_cases h : p.1 = s
  · rw [decide_eq_true h, decide_eq_true (by rw [h])]
  · rw [decide_eq_false h, decide_eq_false fun e => h (tKey_inj e)]
theorem val_tal (m : Tal) (s : List Int) : valV (talD m) (tKey s) = (getT m s).map V.int := by
  unfold valV getT talD
  rw [List.find?_map]
  have e : ((fun kv : List Key × V => decide (kv.1 = tKey s)) ∘ fun p : List Int × Int => (tKey p.1, V.int p.2)) = fun p => decide (p.1 = s) := by funext p; exact talD_key p s
  rw [e, Option.map_map, Option.map_map]
  rfl
theorem put_tal (m : Tal) (s : List Int) (v : Int) : putK (talD m) (tKey s) (.int v) = talD (putT m s v) := by
  unfold putK putT
  have e1 : ((talD m).any fun kv => decide (kv.1 = tKey s)) = m.any fun p => decide (p.1 = s) := by
    unfold talD
    rw [List.any_map]
    congr 1
    funext p
    exact talD_key p s
  rw [e1]
  by_cases h : (m.any fun p => decide (p.1 = s)) = true
  · rw [if_pos h, if_pos h]
    unfold talD
    rw [List.map_map, List.map_map]
    apply List.map_congr_left
    intro p _
    show (if tKey p.1 = tKey s then (tKey p.1, V.int v) else (tKey p.1, V.int p.2)) = (tKey (if p.1 = s then (p.1, v) else p).1, V.int (if p.1 = s then (p.1, v) else p).2)
    by_cases q : p.1 = s
    · rw [if_pos q, if_pos (by rw [q])]
    · rw [if_neg q, if_neg fun e => q (tKey_inj e)]
  · rw [if_neg h, if_neg h]
    unfold talD
    rw [List.map_append]
    rfl
/-- the tuples with their ints -/
abbrev TupsAt (H : Hp) (bs : List (Addr × List Int)) : Prop := ∀ b ∈ bs, H b.1 = some (.tup (b.2.map V.int))
theorem keys_tups {H : Hp} : ∀ {m : Tal} {as : List Addr}, IsKeys H (talD m) as → ∃ bs : List (Addr × List Int), bs.map (·.1) = as ∧ bs.map (·.2) = m.map (·.1) ∧ TupsAt H bs
  | [], _, .nil => ⟨[], rfl, rfl, fun b hb => nomatch hb⟩
  | p :: m, _, .cons (b := a) h t => by
    obtain ⟨bs, h1, h2, h3⟩ := keys_tups (m := m) t
    refine ⟨(a, p.1) :: bs, by rw [List.map_cons, h1], by rw [List.map_cons, h2]; rfl, fun b hb => ?_⟩
    rcases List.mem_cons.mp hb with q | q
    · subst q
      have h' : H a = some (.tup ((tKey p.1).map kV)) := h
      rw [tKey_kV] at h'
      exact h'
    · exact h3 b q
theorem each_refs : ∀ bs : List (Addr × List Int), PySem.W.EachIs (fun (v : Value) (b : Addr × List Int) => v = .ref b.1) (bs.map fun b => Value.ref b.1) bs
  | [] => .nil
  | b :: r => .cons rfl (each_refs r)
theorem each_refs_inv : ∀ {vs : List Value} {bs : List (Addr × List Int)}, PySem.W.EachIs (fun (v : Value) (b : Addr × List Int) => v = .ref b.1) vs bs → vs = bs.map fun b => Value.ref b.1
  | [], [], _ => rfl
  | v :: vs, b :: bs, .cons h t => by rw [List.map_cons, h, each_refs_inv t]
theorem each_all {R : Value → Addr × List Int → Prop} : ∀ {bs : List (Addr × List Int)}, (∀ b ∈ bs, R (.ref b.1) b) → PySem.W.EachIs R (bs.map fun b => Value.ref b.1) bs
  | [], _ => .nil
  | b :: r, h => .cons (h b (List.mem_cons_self ..)) (each_all fun c hc => h c (List.mem_cons_of_mem _ hc))
def rSortT : List V → Hp → VK → Prop := fun xs H Q => ∃ (a : Addr) (m : Tal), xs = [.ref a] ∧ H a = some (.dT (talD m)) ∧ m.length ≤ 1000 ∧ (m.length ≤ 1 ∨ ∀ p ∈ m, p.1 ≠ []) ∧
  ∀ p bs, H p = none → (bs.map (·.2)).Perm (m.map (·.1)) → TupsAt H bs → Q (.ref p) (upd H p (.lst (bs.map fun b => V.ref b.1)))
theorem call_sortT {X : Cx} (hcalm : X.calm = true) (hu : X.A.units + 64 < cLine) : CallR X (.builtin "sorted") rSortT := by
  intro pins s σ H xs us Q I r h
  obtain ⟨d, m, rfl, hd, hm, hne, q⟩ := h
  obtain ⟨u, rfl, rx⟩ := vals1 r
  cases rx
  obtain ⟨z, hs, ks, pr, o, es, ep, ho, hx, hdt, he, hn⟩ := (show ObjOk X.prog X.w H s.heap d (.dT (talD m)) from I.hok d _ hd)
  have l1 : es.size = ks.length := size_of_entries he
  have l2 : (talD m).length = ks.length := Paired.length pr
  have l3 : (talD m).length = m.length := List.length_map _
  have zl : sizeLine = 16777216 := by decide
  obtain ⟨bs, b1, b2, b3⟩ := keys_tups (isKeys_of pr)
  have bl : bs.length = m.length := by have := congrArg List.length b2; rw [List.length_map, List.length_map] at this; exact this
  refine Calls.call_function_entry PyProof.Rows.kind_sorted PyProof.Rows.plain_sorted PyProof.Rows.entry_sorted (PyProof.Rows.args_sorted1 _) ?_
  unfold Builtin.«sorted»
  refine wpAny_bind (m := checkCount "sorted" 1 1 _) (wpAny_pure ?_)
  refine wpAny_bind (PySem.W.kdu_collect (A := X.A.in1) (kdl_raw hs hx hdt) (I.ok.hd hcalm) ho (by omega) fun h' tk acc kp it => ?_)
  have ea : acc.toList = bs.map fun b => Value.ref b.1 := by
    have hl : acc.toList.length = ks.length := by rw [Array.length_toList, it.1]; exact l1
    have ec : (bs.map fun b => Value.ref b.1) = ks.map fun x => Value.ref x.2.1 := by
      have := congrArg (List.map Value.ref) b1
      rw [List.map_map, List.map_map] at this
      exact this
    rw [ec]
    apply List.ext_getElem?
    intro j
    rw [List.getElem?_map]
    cases hj : acc.toList[j]? with
    | none => rw [List.getElem?_eq_none (by have := List.getElem?_eq_none_iff.mp hj; omega)]; rfl
    | some v =>
      obtain ⟨en, hen, hv⟩ := it.2 j v (by rw [← Array.getElem?_toList]; exact hj)
      have qe := entry_at he j
      rw [hen] at qe
      cases hb : ks[j]? with
      | none => rw [hb] at qe; exact nomatch (show some en = none from qe)
      | some b =>
        rw [hb] at qe
        have e2 : en = entryOfKey (tupleKind (mixKind X.prog X.w)) b := Option.some.inj qe
        rw [hv, e2]
        rfl
  have I1 : Inv X pins σ H { s with heap := h', toks := tk } := I.kept kp
  rw [ea]
  have hll : (bs.map fun b => Value.ref b.1).length ≤ 1000 := by rw [List.length_map]; omega
  refine wpAny_bind (wpAny_newList ?_ (by omega))
  have hoL : (h'.push (seqObj "list" (bs.map fun b => Value.ref b.1).toArray 0)).get? h'.objs.size = some (seqObj "list" (bs.map fun b => Value.ref b.1).toArray 0) := Heap.get?_push_size _ rfl
  show wpAny _ _ _ _ _ { s with heap := h'.push (seqObj "list" (bs.map fun b => Value.ref b.1).toArray 0), toks := tk }
  have fin : ∀ cs : List (Addr × List Int), cs.Perm bs → wpAny (model X.prog X.w) X.A.in1 (pure (Fin.done (.ret (.ref h'.objs.size)))) (fun f s' => ∃ v, f = .done (.ret v) ∧ ∃ x H', Inv X pins σ H' s' ∧ RelV x v ∧ Q x H') X.xe { s with heap := sortedHeap (h'.push (seqObj "list" (bs.map fun b => Value.ref b.1).toArray 0)) h'.objs.size (bs.map fun b => Value.ref b.1) (cs.map fun b => Value.ref b.1).toArray, toks := tk } := by
    intro cs pm
    obtain ⟨e', he'⟩ := PyProof.Rows.sortedHeap_at (vs := bs.map fun b => Value.ref b.1) (out := (cs.map fun b => Value.ref b.1).toArray) hoL
    have rv : Vals (cs.map fun b => V.ref b.1) (cs.map fun b => Value.ref b.1) := by
      have := vals_refs (cs.map (·.1))
      rw [List.map_map, List.map_map] at this
      exact this
    refine wpAny_pure ⟨_, rfl, .ref h'.objs.size, upd H h'.objs.size (.lst (cs.map fun b => V.ref b.1)), I1.laid (t' := tk) (fun b u e => ?_) (Nat.le_refl _)
      (show ObjOk X.prog X.w _ _ _ (.lst (cs.map fun b => V.ref b.1)) from ⟨?_, _, e', rv, he'⟩), rfl, q _ cs (I1.hok.fresh (Nat.le_refl _)) ((pm.map _).trans (by rw [b2])) fun b hb => b3 b (pm.mem_iff.mp hb)⟩
    · have hb : b < h'.objs.size := Heap.lt_size e
      rw [PyProof.Rows.sortedHeap_old (Nat.ne_of_lt hb) (by rw [size_push']; exact Nat.lt_succ_of_lt hb)]
      exact Heap.get?_push_of_some _ e
    · rw [List.length_map, pm.length_eq]; omega
  by_cases h1 : m.length ≤ 1
  · refine wpAny_bind (wpAny_holding (wpAny_call_entry PyProof.Rows.slot_list_sort ⟨_, hoL, rfl⟩ PyProof.Rows.entry_list_sort
      (Srt.list_sort_any (s := { s with heap := h'.push (seqObj "list" (bs.map fun b => Value.ref b.1).toArray 0), toks := tk }) hoL (by omega) (fun h2 => absurd h2 (by rw [List.length_map]; omega)) fun out pm => ⟨_, rfl, ?_⟩) (PyProof.Rows.args_list_sort _)))
    have eo : out = bs.map fun b => Value.ref b.1 := by
      have hol : out.length ≤ 1 := by rw [pm.length_eq, List.length_map]; omega
      match out, hol, pm with
      | [], _, pm => exact (List.nil_perm.mp pm).symm
      | [v], _, pm => exact List.singleton_perm.mp pm
    rw [eo]
    exact fin bs (List.Perm.refl _)
  · have hne' : ∀ p ∈ m, p.1 ≠ [] := hne.resolve_left h1
    have hbn : ∀ b ∈ bs, b.2 ≠ [] := fun b hb => by
      have : b.2 ∈ bs.map (·.2) := List.mem_map.mpr ⟨b, hb, rfl⟩
      rw [b2] at this
      obtain ⟨p, hp, e⟩ := List.mem_map.mp this
      rw [← e]
      exact hne' p hp
    refine wpAny_bind (wpAny_holding (PySem.W.list_sort_data (A := X.A.in1) (s := { s with heap := h'.push (seqObj "list" (bs.map fun b => Value.ref b.1).toArray 0), toks := tk }) (R := fun (v : Value) (b : Addr × List Int) => v = .ref b.1) (enc := fun b : Addr × List Int => .tuple (b.2.map .int)) (bs := bs) hoL (each_refs bs)
      (each_all fun b hb => ?_) (PySem.W.AllAlike.of fun b c => PySem.W.alike_ints b.2 c.2) (Or.inl fun d hd => ?_) (by omega) (fun b _ => ?_) fun out ol eo => ?_))
    · obtain ⟨as, ra⟩ := Dp.reads I1 (.tuple (b.2.map .int)) (V.ref b.1) (.ref b.1) (.tup (st_of (b3 b hb)) (dp_ints _)) rfl
      refine ⟨as, PyProof.Rows.Reads.keeps (fun c u e => Heap.get?_push_of_some _ e) ra, fun hm => ?_⟩
      obtain ⟨ob, eb⟩ := PyProof.On.reads_mem_get ra _ hm
      exact absurd (Heap.lt_size eb) (Nat.lt_irrefl _)
    · obtain ⟨b, hb, rfl⟩ := List.mem_map.mp hd
      have := hbn b hb
      cases hb2 : b.2 with
      | nil => exact absurd hb2 this
      | cons x t => exact ⟨.int x, t.map .int, rfl⟩
    · have : (PyData.tuple (b.2.map .int)).depth = 1 := by simp only [PyData.depth, depth_ints]
      show X.A.units + 1 + 1 + (PyData.tuple (b.2.map .int)).depth < cLine
      rw [this]; omega
    · rw [each_refs_inv eo]
      exact fin _ (List.mergeSort_perm _ _)
section
variable {K : PySem.W.Frag} {σ : L2.St} {H H' : Hp} {ta tb tc td te tx ty tv : TE} {t : TT} {D : Ends} {tz : TS} {v w : V}
/-- two names at once -/
theorem q_par {i j : Nat} (h1 : Ev ta σ H v) (h2 : Ev tb σ H w) (k : ∀ H1, Ex H H1 → tz D ((σ.set i (some v)).set j (some w)) H1) : tSeq (tPar i j (tCons ta (tCons tb tNil))) tz D σ H :=
  h1 H (Ex.refl _) _ fun H1 e1 => h2 H1 e1 _ fun H2 e2 => ⟨v, w, rfl, k H2 (e1.trans e2)⟩
theorem q_parVL {i j : Nat} {xs : List V} (h1 : Ev ta σ H v) (h2 : EvL tb σ H xs) (k : ∀ p H1, H p = none → Ex H H1 → H1 p = some (.lst xs) → tz D ((σ.set i (some v)).set j (some (.ref p))) H1) : tSeq (tPar i j (tCons ta (tCons tb tNil))) tz D σ H :=
  h1 H (Ex.refl _) _ fun H1 e1 => h2 H1 e1 _ fun p H2 n e2 a => ⟨v, .ref p, rfl, k p H2 (fresh_back e1 n) (e1.trans e2) a⟩
theorem q_tup2 {i j : Nat} (h1 : Ev ta σ H v) (h2 : Ev tb σ H w) (k : ∀ H1, Ex H H1 → tz D ((σ.set i (some v)).set j (some w)) H1) : tSeq (tAsg (tTup (tCons ta (tCons tb tNil))) (gTup K 2 (gCons (gName i) (gCons (gName j) gNil)))) tz D σ H :=
  rd_asgTup (rd_cons (h1 H (Ex.refl _) _ fun H1 e1 => rd_cons (h2 H1 e1 _ fun H2 e2 => rd_nil ⟨show 2 ≤ sizeLine by decide, fun pu npu => ⟨pu, _, rfl, st_of upd_same, rfl, _, _, rfl, _, _, rfl, rfl, k _ ((e1.trans e2).trans (Ex.new npu))⟩⟩)))
theorem q_tupD {i j : Nat} (h1 : Ev ta σ H v) (k : ∀ d H1, H d = none → Ex H H1 → H1 d = some (.dT (talD [])) → tz D ((σ.set i (some v)).set j (some (.ref d))) H1) : tSeq (tAsg (tTup (tCons ta (tCons tDNewT tNil))) (gTup K 2 (gCons (gName i) (gCons (gName j) gNil)))) tz D σ H :=
  rd_asgTup (rd_cons (h1 H (Ex.refl _) _ fun H1 e1 => rd_cons fun d nd => rd_nil ⟨show 2 ≤ sizeLine by decide, fun pu npu => ⟨pu, _, rfl, st_of upd_same, rfl, _, _, rfl, _, _, rfl, rfl, k d _ (fresh_back e1 nd) ((e1.trans (Ex.new nd)).trans (Ex.new npu)) ((Ex.new npu) _ _ upd_same)⟩⟩))
/-- data do not lean on a dict -/
theorem sql_del {d a : Addr} {kvs : List (List Key × V)} {xs : List V} (hd : H d = some (.dT kvs)) (h : SqL K H a xs) : SqL K (del H d) a xs := by
  rcases h with r | r
  · have ne : a ≠ d := fun e => by
      subst e
      rcases r with r | ⟨o, r⟩ <;> rw [hd] at r <;> cases r
    refine .inl ?_
    rcases r with r | ⟨o, r⟩
    · exact .inl (by rw [del_ne ne]; exact r)
    · exact .inr ⟨o, by rw [del_ne ne]; exact r⟩
  · exact .inr r
theorem sqt_del {d a : Addr} {kvs : List (List Key × V)} {xs : List V} (hd : H d = some (.dT kvs)) (h : SqT K H a xs) : SqT K (del H d) a xs := by
  rcases h with r | r
  · have ne : a ≠ d := fun e => by
      subst e
      rcases r with r | ⟨o, r⟩ <;> rw [hd] at r <;> cases r
    refine .inl ?_
    rcases r with r | ⟨o, r⟩
    · exact .inl (by rw [del_ne ne]; exact r)
    · exact .inr ⟨o, by rw [del_ne ne]; exact r⟩
  · exact .inr r
mutual
theorem dp_del {d : Addr} {kvs : List (List Key × V)} (hd : H d = some (.dT kvs)) : ∀ {v : V} {x : PyData}, Dp K H v x → Dp K (del H d) v x
  | _, _, .non => .non
  | _, _, .bl b => .bl b
  | _, _, .int i => .int i
  | _, _, .str x => .str x
  | _, _, .lst h a => .lst (sql_del hd h) (dpA_del hd a)
  | _, _, .tup h a => .tup (sqt_del hd h) (dpA_del hd a)
theorem dpA_del {d : Addr} {kvs : List (List Key × V)} (hd : H d = some (.dT kvs)) : ∀ {vs : List V} {xs : List PyData}, DpAll K H vs xs → DpAll K (del H d) vs xs
  | _, _, .nil => .nil
  | _, _, .cons h a => .cons (dp_del hd h) (dpA_del hd a)
end
/-- tuple(a list) -/
def rTupOf (K : PySem.W.Frag) : List V → Hp → VK → Prop := fun xs H Q => ∃ p ys, xs = [.ref p] ∧ ((SqL K H p ys ∧ ∀ l, H l = none → Q (.ref l) (upd H l (.tup ys))) ∨ (SqT K H p ys ∧ Q (.ref p) H))
theorem eu_tupOf {a : Addr} {xs : List V} (h : Ev ta σ H (.ref a)) (hs : SqL K H a xs) : EvU (tCB (rTupOf K) (tCons ta tNil)) σ H xs := fun H1 e Q q =>
  h H1 e _ fun H2 e2 => ⟨a, xs, rfl, .inl ⟨ex_l (e.trans e2) hs, fun l nl => q l _ (fresh_back e2 nl) (e2.trans (Ex.new nl)) upd_same⟩⟩
theorem el_listT {b : Addr} {xs : List V} (h : Ev ta σ H (.ref b)) (hs : H b = some (.tup xs)) : EvL (tCB (rListS K) (tCons ta tNil)) σ H xs := fun H1 e Q q =>
  h H1 e _ fun H2 e2 => ⟨b, xs, rfl, .inr (st_of ((e.trans e2) _ _ hs)), fun l nl => q l _ (fresh_back e2 nl) (e2.trans (Ex.new nl)) upd_same⟩
/-- d.get(tuple(..), 0), d[key], d[tuple(..)] = v -/
theorem ev_tget2 {d : Addr} {m : Tal} {s : List Int} {i : Int} (hd : Ev td σ H (.ref d)) (h : H d = some (.dT (talD m))) (hk : EvU ty σ H (s.map V.int)) (hx : Ev tx σ H (.int i)) : Ev (tDGet2 td ty tx) σ H (.int ((getT m s).getD i)) := fun H1 e Q q =>
  hd H1 e _ fun H2 e2 => ⟨d, rfl, .inr ⟨_, .inl ((e.trans e2) _ _ h)⟩, hk H2 (e.trans e2) _ fun b H3 nb e3 hb => hx H3 (e.trans (e2.trans e3)) _ fun H4 e4 => ⟨_, DGet.t (k := tKey s) ((e.trans (e2.trans (e3.trans e4))) _ _ h) (by rw [tKey_kV]; exact e4 _ _ hb), by
    rw [val_tal]
    have : ((getT m s).map V.int).getD (.int i) = .int ((getT m s).getD i) := by cases getT m s <;> rfl
    rw [this]
    exact q H4 (e2.trans (e3.trans e4))⟩⟩
theorem ev_tget {d b : Addr} {m : Tal} {s : List Int} {i : Int} (hd : Ev td σ H (.ref d)) (h : H d = some (.dT (talD m))) (hk : Ev ty σ H (.ref b)) (hb : H b = some (.tup (s.map V.int))) (hv : getT m s = some i) : Ev (tDGet td ty) σ H (.int i) := fun H1 e Q q =>
  hd H1 e _ fun H2 e2 => hk H2 (e.trans e2) _ fun H3 e3 => ⟨d, .int i, rfl, by
    have := DGet.t (k := tKey s) ((e.trans (e2.trans e3)) _ _ h) (by rw [tKey_kV]; exact (e.trans (e2.trans e3)) _ _ hb)
    rw [val_tal, hv] at this
    exact this, q H3 (e2.trans e3)⟩
theorem s_tput {d : Addr} {m : Tal} {s : List Int} {i : Int} (hd : Ev td σ H (.ref d)) (h : H d = some (.dT (talD m))) (hv : Ev tv σ H (.int i)) (hk : EvU ty σ H (s.map V.int)) (hz : m.length < 100000) (c : ∀ H1, Ex H H1 → D.nx σ (upd H1 d (.dT (talD (putT m s i))))) : sDPut td ty tv D σ H :=
  hv H (Ex.refl _) _ fun H1 e1 => hd H1 e1 _ fun H2 e2 => hk H2 (e1.trans e2) _ fun b H3 nb e3 hb => ⟨d, _, rfl, DPut.t (k := tKey s) ((e1.trans (e2.trans e3)) _ _ h) (by rw [tKey_kV]; exact hb) (by
    have zl : sizeLine = 16777216 := by decide
    unfold talD
    rw [List.length_map]
    omega), by
    rw [put_tal]
    exact c H3 (e1.trans (e2.trans e3))⟩
/-- [.. for x in sorted(d)] -/
theorem lcT {j : Nat} {vs : List Nat} {d : Addr} {m : Tal} (f : List Int → V) (hd : Ev td σ H (.ref d)) (h : H d = some (.dT (talD m))) (hz : m.length ≤ 1000) (hne : m.length ≤ 1 ∨ ∀ p ∈ m, p.1 ≠ []) (hw : ∀ x, wipe ((wipe σ vs).set j (some x)) vs = wipe σ vs)
    (he : ∀ (b : Addr) (p : List Int × Int) H1, Ex H H1 → p ∈ m → H1 b = some (.tup (p.1.map V.int)) → Ev te ((wipe σ vs).set j (some (.ref b))) H1 (f p.1)) {H1 : Hp} (e : Ex H H1) {Q : VK}
    (q : ∀ (ss : List (List Int)) p H2, ss.Perm (m.map (·.1)) → Ex H1 H2 → H2 p = some (.lst (ss.map f)) → Q (.ref p) H2) : tLc (iList K (tCB rSortT (tCons td tNil))) (gName j) tYes te vs σ H1 Q :=
  hd H1 e _ fun H2 e2 => ⟨d, m, rfl, (e.trans e2) _ _ h, hz, hne, fun p bs np pm hb => ⟨p, rfl, ⟨_, sq_of upd_same⟩, fun Dl hD => by
    have hlen : bs.length ≤ 1000 := by have := pm.length_eq; rw [List.length_map, List.length_map] at this; omega
    have hx3 : Ex H (upd H2 p (.lst (bs.map fun b => V.ref b.1))) := (e.trans e2).trans (Ex.new np)
    refine lc_list (xs := bs.map fun b => V.ref b.1) (Cw (upd H2 p (.lst (bs.map fun b => V.ref b.1))) (fun _ => true) (fun i => f ((bs.getD i (0, [])).2)) Dl) ⟨hD, Ex.new hD, upd_same⟩ (fun i H' _ c => sq_of (c.2.1 p _ upd_same)) (fun i x H' hi c => ?_) (fun H' c => ?_)
    · rw [List.getElem?_map] at hi
      cases hb2 : bs[i]? with
      | none => rw [hb2] at hi; cases hi
      | some b =>
        rw [hb2] at hi
        obtain rfl : V.ref b.1 = x := Option.some.inj hi
        have hbm := List.mem_of_getElem? hb2
        have hil : i < bs.length := (List.getElem?_eq_some_iff.mp hb2).1
        have hmem : b.2 ∈ m.map (·.1) := pm.mem_iff.mp (List.mem_map.mpr ⟨b, hbm, rfl⟩)
        obtain ⟨pp, hp, epp⟩ := List.mem_map.mp hmem
        have egd : bs.getD i (0, []) = b := by rw [List.getD_eq_getElem?_getD, hb2]; rfl
        exact ⟨hw _, cw_turn c (by omega) et_yes (fun _ => by
          rw [egd, ← epp]
          exact he b.1 pp _ hx3 hp (by rw [epp]; exact (Ex.new np) _ _ (hb b hbm)))⟩
    · refine q (bs.map (·.2)) Dl H' pm (e2.trans ((Ex.new np).trans c.2.1)) ?_
      rw [c.2.2, given_all, List.length_map, List.map_map]
      congr 2
      apply List.ext_getElem?
      intro k
      rw [List.getElem?_map, List.getElem?_map]
      by_cases hk : k < bs.length
      · rw [List.getElem?_range hk, List.getElem?_eq_getElem hk]
        show some (f ((bs.getD k (0, [])).2)) = some (f bs[k].2)
        rw [List.getD_eq_getElem?_getD, List.getElem?_eq_getElem hk]
        rfl
      · rw [List.getElem?_eq_none (by rw [List.length_range]; omega), List.getElem?_eq_none (by omega)]
        rfl⟩⟩
theorem ev_anyT {j : Nat} {vs : List Nat} {d : Addr} {m : Tal} (hd : Ev td σ H (.ref d)) (h : H d = some (.dT (talD m))) (hz : m.length ≤ 1000) (hne : m.length ≤ 1 ∨ ∀ p ∈ m, p.1 ≠ []) (hw : ∀ x, wipe ((wipe σ vs).set j (some x)) vs = wipe σ vs)
    (he : ∀ (b : Addr) (p : List Int × Int) H1, Ex H H1 → p ∈ m → H1 b = some (.tup (p.1.map V.int)) → Ev te ((wipe σ vs).set j (some (.ref b))) H1 (.bl false)) : Ev (tCB (rAny K) (tCons (tLc (iList K (tCB rSortT (tCons td tNil))) (gName j) tYes te vs) tNil)) σ H (.bl false) := fun H1 e Q q =>
  show (tLc (iList K (tCB rSortT (tCons td tNil))) (gName j) tYes te vs) σ H1 (fun x H2 => rAny K [x] H2 Q) from lcT (fun _ => .bl false) hd h hz hne hw he e fun ss p H2 pm e2 hp => ⟨p, ss.map fun _ => false, rfl, sq_of (by rw [List.map_map]; exact hp), by
    have : (ss.map fun _ => false).any id = false := by
      rw [List.any_eq_false]
      intro x hx
      obtain ⟨_, _, rfl⟩ := List.mem_map.mp hx
      decide
    rw [this]
    exact q H2 e2⟩
theorem ev_sumT {j : Nat} {vs : List Nat} {d : Addr} {m : Tal} (f : List Int → Int) (hd : Ev td σ H (.ref d)) (h : H d = some (.dT (talD m))) (hz : m.length ≤ 1000) (hne : m.length ≤ 1 ∨ ∀ p ∈ m, p.1 ≠ []) (hw : ∀ x, wipe ((wipe σ vs).set j (some x)) vs = wipe σ vs)
    (he : ∀ (b : Addr) (p : List Int × Int) H1, Ex H H1 → p ∈ m → H1 b = some (.tup (p.1.map V.int)) → Ev te ((wipe σ vs).set j (some (.ref b))) H1 (.int (f p.1))) : Ev (tCB (rSum K) (tCons (tLc (iList K (tCB rSortT (tCons td tNil))) (gName j) tYes te vs) tNil)) σ H (.int ((m.map fun p => f p.1).sum)) := fun H1 e Q q =>
  show (tLc (iList K (tCB rSortT (tCons td tNil))) (gName j) tYes te vs) σ H1 (fun x H2 => rSum K [x] H2 Q) from lcT (fun s => .int (f s)) hd h hz hne hw he e fun ss p H2 pm e2 hp => ⟨p, ss.map f, rfl, sq_of (by rw [List.map_map]; exact hp), by
    have e3 : (ss.map f).sum = (m.map fun p => f p.1).sum := by
      have := perm_sum (pm.map f)
      rw [List.map_map] at this
      exact this
    rw [e3]
    exact q H2 e2⟩
/-- sum of a list of ints -/
theorem ev_sum {a : Addr} {ns : List Int} (h : Ev ta σ H (.ref a)) (hs : SqL K H a (ns.map V.int)) : Ev (tCB (rSum K) (tCons ta tNil)) σ H (.int ns.sum) := fun H1 e Q q =>
  h H1 e _ fun H2 e2 => ⟨a, ns, rfl, ex_l (e.trans e2) hs, q H2 e2⟩
theorem ev_sumN {ns : List Int} (h : EvL ta σ H (ns.map V.int)) : Ev (tCB (rSum K) (tCons ta tNil)) σ H (.int ns.sum) := fun H1 e Q q =>
  h H1 e _ fun a H2 n e2 ha => ⟨a, ns, rfl, sq_of ha, q H2 e2⟩
/-- the turns of zip, for a comprehension -/
theorem lc_zip {a b : Addr} {xs ys : List V} {j1 j2 n : Nat} {vs : List Nat} {H1 : Hp} {Dl : Addr} {Qd : Hp → Prop} (h1 : n ≤ xs.length) (h2 : n ≤ ys.length) (h3 : xs.length ≤ n ∨ ys.length ≤ n) (Pv : Nat → Hp → Prop) (h0 : Pv 0 (upd H1 Dl (.lst []))) (hl : ∀ i H, i ≤ n → Pv i H → SqL K H a xs ∧ SqL K H b ys)
    (hs : ∀ i x y H T, i < n → xs[i]? = some x → ys[i]? = some y → Pv i H → H T = none → wipe (((wipe σ vs).set j1 (some x)).set j2 (some y)) vs = wipe σ vs ∧ t (((wipe σ vs).set j1 (some x)).set j2 (some y)) (upd H T (.tup [x, y])) fun b H3 =>
      if b = true then te (((wipe σ vs).set j1 (some x)).set j2 (some y)) H3 fun y H4 => ∃ acc, H4 Dl = some (.lst acc) ∧ acc.length < sizeLine ∧ Pv (i + 1) (upd H4 Dl (.lst (acc ++ [y]))) else Pv (i + 1) H3) (hd : ∀ H, Pv n H → Qd H) :
    ∃ W : Nat → Nat → Hp → Prop, (∃ m, W 0 m (upd H1 Dl (.lst []))) ∧ ∀ i m H, W i m H →
      ((Itz K a b).stop i H ∧ Qd H) ∨ ((Itz K a b).go i H ∧ ∃ Nx : Hp → Prop, (∀ H', Nx H' → ∃ m', m' < m ∧ W (i + 1) m' H') ∧ ∀ x H', (Itz K a b).yld i H x H' → (gTup K 2 (gCons (gName j1) (gCons (gName j2) gNil))) x (wipe σ vs) H' fun σ2 H2 => wipe σ2 vs = wipe σ vs ∧ t σ2 H2 fun b H3 =>
        if b = true then te σ2 H3 fun y H4 => ∃ acc, H4 Dl = some (.lst acc) ∧ acc.length < sizeLine ∧ Nx (upd H4 Dl (.lst (acc ++ [y]))) else Nx H3) := by
  refine ⟨fun i m H => i + m = n ∧ Pv i H, ⟨n, by omega, h0⟩, fun i m H hW => ?_⟩
  obtain ⟨em, hP⟩ := hW
  obtain ⟨hA, hB⟩ := hl i H (by omega) hP
  by_cases hi : i < n
  · refine .inr ⟨⟨xs, ys, xs[i], ys[i], hA, hB, List.getElem?_eq_getElem (by omega), List.getElem?_eq_getElem (by omega)⟩, Pv (i + 1), fun H' hp => ⟨m - 1, by omega, by omega, hp⟩, fun x H' hy => ?_⟩
    obtain ⟨T, x1, y1, rfl, nT, rfl, f, g⟩ := hy
    exact ⟨T, [x1, y1], rfl, st_of upd_same, rfl, _, _, rfl, _, _, rfl, rfl, hs i x1 y1 H T hi (f xs hA) (g ys hB) hP nT⟩
  · have ei : i = n := by omega
    subst ei
    exact .inl ⟨⟨xs, ys, hA, hB, h3⟩, hd H hP⟩
theorem el_lcZ {a : Addr} {xs ys : List V} {j1 j2 n : Nat} {vs : List Nat} (f : Nat → Bool) (v : Nat → V) (h : Ev ta σ H (.ref a)) (hx : SqL K H a xs) (hb : EvL tb σ H ys) (h1 : n ≤ xs.length) (h2 : n ≤ ys.length) (h3 : xs.length ≤ n ∨ ys.length ≤ n) (hz : n ≤ 40000) (hw : ∀ x y, wipe (((wipe σ vs).set j1 (some x)).set j2 (some y)) vs = wipe σ vs)
    (ht : ∀ (i : Nat) (x y : V) H1, Ex H H1 → xs[i]? = some x → ys[i]? = some y → EvT t (((wipe σ vs).set j1 (some x)).set j2 (some y)) H1 (f i)) (he : ∀ (i : Nat) (x y : V) H1, Ex H H1 → xs[i]? = some x → ys[i]? = some y → f i = true → Ev te (((wipe σ vs).set j1 (some x)).set j2 (some y)) H1 (v i)) :
    EvL (tLc (iZip K (tCons ta (tCons tb tNil))) (gTup K 2 (gCons (gName j1) (gCons (gName j2) gNil))) t te vs) σ H (given n f v) := fun H0 e Q q => h H0 e _ fun H1 e1 => hb H1 (e.trans e1) _ fun b H2 nb e2 hy => ⟨a, b, xs, ys, rfl, ex_l (e.trans (e1.trans e2)) hx, sq_of hy, fun Dl hD =>
  lc_zip (xs := xs) (ys := ys) h1 h2 h3 (Cw H2 f v Dl) ⟨hD, Ex.new hD, upd_same⟩ (fun i H' _ p => ⟨ex_l ((e.trans (e1.trans e2)).trans p.2.1) hx, sq_of (p.2.1 _ _ hy)⟩) (fun i x y H' T hin hi hi2 p nT => by
    have nD : Dl ≠ T := ne_of_none p.2.2 nT
    have p' : Cw H2 f v Dl i (upd H' T (.tup [x, y])) := ⟨p.1, p.2.1.trans (Ex.new nT), by rw [upd_ne nD]; exact p.2.2⟩
    exact ⟨hw _ _, cw_turn p' (by omega) (ht i x y H2 (e.trans (e1.trans e2)) hi hi2) (fun hf => he i x y H2 (e.trans (e1.trans e2)) hi hi2 hf)⟩)
    (fun H' p => q Dl H' (fresh_back (e1.trans e2) p.1) ((e1.trans e2).trans p.2.1) p.2.2)⟩
end
end Oa
/-! the rows of a length, told apart by shape -/
namespace Oa
def shapeF (row : List Int) : List Int := (List.range (knownF row)).map fun k : Nat => ((row.count (k : Int) : Nat) : Int)
def talS (m : Tal) (r : List Int) : Tal := putT m (shapeF r) ((getT m (shapeF r)).getD 0 + 1)
def talF (rows : List (List Int)) : Tal := rows.foldl talS []
theorem talF_snoc (rows : List (List Int)) (r : List Int) : talF (rows ++ [r]) = talS (talF rows) r := by
  unfold talF
  rw [List.foldl_append]
  rfl
instance (s : List Int) : Decidable (IsShape s) := inferInstanceAs (Decidable (_ ∧ _))
def okT (n : Nat) : Bool :=
  let m := talF (rowsF n)
  decide (m.length ≤ 1 ∨ ∀ p ∈ m, p.1 ≠ []) && (m.all fun p => decide (ofF p.1 = p.2) && (decide (IsShape p.1) && (decide (p.1.sum ≤ 20) && decide (getT m p.1 = some p.2)))) && decide ((m.map fun p => p.2 * p.2).sum = topF n)
theorem okT_all : ∀ n : Fin 7, okT n = true := by decide +kernel
theorem tal_ok {n : Nat} (h : n ≤ 6) : ((talF (rowsF n)).length ≤ 1 ∨ ∀ p ∈ talF (rowsF n), p.1 ≠ []) ∧ (∀ p ∈ talF (rowsF n), ofF p.1 = p.2 ∧ IsShape p.1 ∧ p.1.sum ≤ 20 ∧ getT (talF (rowsF n)) p.1 = some p.2) ∧ ((talF (rowsF n)).map fun p => p.2 * p.2).sum = topF n := by
  have h1 := okT_all ⟨n, by omega⟩
  unfold okT at h1
  simp only [Bool.and_eq_true, List.all_eq_true, decide_eq_true_eq] at h1
  exact ⟨h1.1.1, fun p hp => let h := h1.1.2 p hp; ⟨h.1, h.2.1, h.2.2.1, h.2.2.2⟩, h1.2⟩
def okS (n : Nat) : Bool := (talF (rowsF n)).all fun p => decide (0 ≤ p.2) && decide (p.2 ≤ 100)
theorem okS_all : ∀ n : Fin 7, okS n = true := by decide +kernel
theorem tal_small {n : Nat} (h : n ≤ 6) : ∀ p ∈ talF (rowsF n), 0 ≤ p.2 ∧ p.2 ≤ 100 := fun p hp => by
  have h1 := okS_all ⟨n, by omega⟩
  unfold okS at h1
  simp only [Bool.and_eq_true, List.all_eq_true, decide_eq_true_eq] at h1
  exact h1 p hp
theorem putT_len (m : Tal) (s : List Int) (v : Int) : (putT m s v).length ≤ m.length + 1 := by
  unfold putT
  split
  · rw [List.length_map]; omega
  · rw [List.length_append]; exact Nat.le_refl _
theorem talG_len : ∀ (rows : List (List Int)) (m : Tal), (rows.foldl talS m).length ≤ m.length + rows.length
  | [], _ => Nat.le_refl _
  | r :: rows, m => by
    have h1 := talG_len rows (talS m r)
    have h2 := putT_len m (shapeF r) ((getT m (shapeF r)).getD 0 + 1)
    have h3 : (talS m r).length ≤ m.length + 1 := h2
    show (rows.foldl talS (talS m r)).length ≤ _
    rw [List.length_cons]
    omega
theorem talF_len (rows : List (List Int)) : (talF rows).length ≤ rows.length := by
  have := talG_len rows []
  rw [List.length_nil, Nat.zero_add] at this
  exact this
open L2 Evl
theorem mem_sum_le : ∀ {s : List Int} {x : Int}, (∀ y ∈ s, 1 ≤ y) → x ∈ s → x ≤ s.sum
  | a :: r, x, h, hx => by
    have hr := shape_len (s := r) fun y hy => h y (List.mem_cons_of_mem _ hy)
    have ha := h a (List.mem_cons_self ..)
    rw [List.sum_cons]
    rcases List.mem_cons.mp hx with q | q
    · rw [q]; omega
    · have := mem_sum_le (fun y hy => h y (List.mem_cons_of_mem _ hy)) q
      omega
theorem given_over (ns : List Int) (j p : Nat) : given ((ns.drop j).map V.int).length (fun k => decide ((p : Int) < (ns.drop j).getD k 0)) (fun k => .int ((ns.drop j).getD k 0)) = ((ns.drop j).filter fun x => decide ((p : Int) < x)).map V.int := by
  rw [List.length_map]
  exact gv_list (ns.drop j) (fun x => decide ((p : Int) < x)) (fun x => V.int x) 0
def condL (s : List Int) (i : Nat) : Bool := decide (i + 1 = s.length) || decide (s.getD (i + 1) 0 < s.getD i 0)
def cutAt (s : List Int) (i : Nat) : List Int := s.take i ++ [s.getD i 0 - 1] ++ s.drop (i + 1)
def lessAt (s : List Int) (i : Nat) : List Int := (cutAt s i).filter fun x => decide (0 < x)
theorem cutAt_len {s : List Int} {i : Nat} (h : i < s.length) : (cutAt s i).length = s.length := by
  unfold cutAt
  rw [List.length_append, List.length_append, List.length_take, List.length_drop]
  show _ + 1 + _ = _
  omega
theorem given_pos (ns : List Int) (i : Nat) : given ((cutAt ns i).map V.int).length (fun k => decide (0 < (cutAt ns i).getD k 0)) (fun k => .int ((cutAt ns i).getD k 0)) = (lessAt ns i).map V.int := by
  rw [List.length_map]
  exact gv_list (cutAt ns i) (fun x => decide (0 < x)) (fun x => V.int x) 0
theorem dec_natL (i j : Nat) : decide (V.int (i : Int) = V.int (j : Int)) = decide (i = j) := by
  rw [dec_int]
  by_cases e : i = j
  · subst e; simp
  · rw [decide_eq_false e, beq_eq_false_iff_ne]; omega
theorem keep_pos {r : List Int} (h : ∀ x ∈ r, 1 ≤ x) : r.filter (fun x => decide (0 < x)) = r := List.filter_eq_self.mpr fun x hx => by
  have := h x hx
  exact decide_eq_true (by omega)
theorem less_dn : ∀ {s : List Int}, IsShape s → ((List.range s.length).filter (condL s)).map (lessAt s) = dnF s
  | [], _ => rfl
  | a :: r, h => by
    have ih := less_dn h.tail
    have ha := h.head.1
    have hr := h.tail.2
    have c0 : condL (a :: r) 0 = decide (r.getD 0 0 < a) := by
      unfold condL
      cases r with
      | nil => show (decide (0 + 1 = 1) || _) = decide ((0 : Int) < a); rw [decide_eq_true (show (0 : Int) < a by omega)]; rfl
      | cons b r => show (decide (0 + 1 = r.length + 1 + 1) || decide (b < a)) = decide (b < a); rw [decide_eq_false (by omega), Bool.false_or]
    have cs : (condL (a :: r)) ∘ Nat.succ = condL r := by
      funext i
      show (decide (i + 1 + 1 = r.length + 1) || decide ((a :: r).getD (i + 1 + 1) 0 < (a :: r).getD (i + 1) 0)) = (decide (i + 1 = r.length) || decide (r.getD (i + 1) 0 < r.getD i 0))
      rw [List.getD_cons_succ, List.getD_cons_succ]
      congr 1
      by_cases e : i + 1 = r.length
      · rw [decide_eq_true e, decide_eq_true (by omega)]
      · rw [decide_eq_false e, decide_eq_false (by omega)]
    have l0 : lessAt (a :: r) 0 = cons0 (a - 1) r := by
      show ((a - 1) :: r).filter _ = _
      unfold cons0
      rw [List.filter_cons, keep_pos hr]
      by_cases e : a - 1 = 0
      · rw [if_pos e, if_neg (by rw [decide_eq_false (by omega)]; decide)]
      · rw [if_neg e, if_pos (by rw [decide_eq_true (by omega)])]
    have ls : (lessAt (a :: r)) ∘ Nat.succ = fun i => a :: lessAt r i := by
      funext i
      show lessAt (a :: r) (i + 1) = a :: lessAt r i
      unfold lessAt
      have e : cutAt (a :: r) (i + 1) = a :: cutAt r i := by unfold cutAt; simp
      rw [e, List.filter_cons, if_pos (by rw [decide_eq_true (by omega)])]
    have e0 : List.range (a :: r).length = 0 :: (List.range r.length).map Nat.succ := by rw [List.length_cons, List.range_succ_eq_map]
    rw [e0, List.filter_cons, c0, List.filter_map, cs]
    unfold dnF
    rw [← ih, List.map_map]
    by_cases hc : r.getD 0 0 < a
    · rw [if_pos (by rw [decide_eq_true hc]), if_pos hc, List.map_cons, l0, List.map_map, ls]
      rfl
    · rw [if_neg (by rw [decide_eq_false hc]; decide), if_neg hc, List.map_map, ls]
      rfl
theorem cnt_nn (t : List Int) (p : Int) : 0 ≤ cntF t p := by unfold cntF; omega
theorem cnt_le (t : List Int) (p : Int) : cntF t p ≤ (t.length : Int) := by
  unfold cntF
  have := List.length_filter_le (fun x => decide (p < x)) t
  omega
theorem rowP_ok {a : Int} {t : List Int} (ha : a ≤ 20) (ht : t.length ≤ 20) : ∀ n : Nat, (n : Int) ≤ a → 0 < rowP a t n ∧ rowP a t n ≤ ((64 ^ n : Nat) : Int)
  | 0, _ => ⟨show (0 : Int) < 1 by decide, show (1 : Int) ≤ 1 by decide⟩
  | n + 1, h => by
    obtain ⟨h1, h2⟩ := rowP_ok ha ht n (by omega)
    have c1 := cnt_nn t (n : Int)
    have c2 := cnt_le t (n : Int)
    unfold rowP
    refine ⟨Int.mul_pos h1 (by omega), ?_⟩
    rw [Nat.pow_succ, Int.natCast_mul]
    exact Int.mul_le_mul h2 (by show _ ≤ (64 : Int); omega) (by omega) (Int.natCast_nonneg _)
theorem hook_ok : ∀ {s : List Int}, IsShape s → s.sum ≤ 20 → 0 < hookF s ∧ hookF s ≤ ((64 ^ s.sum.toNat : Nat) : Int)
  | [], _, _ => ⟨by decide, by decide⟩
  | a :: r, h, hl => by
    have hr := shape_len h.tail.2
    have ha := h.head.1
    rw [List.sum_cons] at hl
    obtain ⟨h1, h2⟩ := hook_ok h.tail (by omega)
    obtain ⟨k1, k2⟩ := rowP_ok (a := a) (t := r) (by omega) (by omega) a.toNat (by omega)
    unfold hookF
    refine ⟨Int.mul_pos k1 h1, ?_⟩
    rw [List.sum_cons, Int.toNat_add (by omega) (by omega), Nat.pow_add, Int.natCast_mul]
    exact Int.mul_le_mul k2 h2 (by omega) (Int.natCast_nonneg _)
theorem hook_pos {s : List Int} (h : IsShape s) (hl : s.sum ≤ 20) : 0 < hookF s := (hook_ok h hl).1
theorem hook_fit {s : List Int} (h : IsShape s) (hl : s.sum ≤ 20) : (hookF s).natAbs < 2 ^ 200 := by
  obtain ⟨h1, h2⟩ := hook_ok h hl
  have h3 : (hookF s).natAbs ≤ 64 ^ s.sum.toNat := by omega
  exact Nat.lt_of_le_of_lt (Nat.le_trans h3 (Nat.pow_le_pow_right (by decide) (show s.sum.toNat ≤ 20 by omega))) (by decide)
theorem shape_snoc {s : List Int} {x : Int} (h : IsShape s) (h1 : 1 ≤ x) (hx : ∀ y ∈ s, x ≤ y) : IsShape (s ++ [x]) := by
  refine ⟨List.pairwise_append.mpr ⟨h.1, List.pairwise_singleton _ _, fun a ha b hb => ?_⟩, fun y hy => ?_⟩
  · rw [List.mem_singleton.mp hb]; exact hx a ha
  · rcases List.mem_append.mp hy with q | q
    · exact h.2 y q
    · rw [List.mem_singleton.mp q]; exact h1
theorem shape_last {s : List Int} {x : Int} (h : IsShape (s ++ [x])) : ∀ y ∈ s ++ [x], x ≤ y := fun y hy => by
  rcases List.mem_append.mp hy with q | q
  · exact (List.pairwise_append.mp h.1).2.2 y q x (List.mem_singleton.mpr rfl)
  · rw [List.mem_singleton.mp q]; exact Int.le_refl _
theorem given_intsF (xss : List (List Int)) (f : List Int → Int) : given (dRows xss).length (fun _ => true) (fun i => .int (f (xss.getD i []))) = (xss.map f).map V.int := by
  rw [dRows_len]
  have := gv_list xss (fun _ => true) (fun p => V.int (f p)) []
  rw [given_gv, this, List.filter_eq_self.mpr (fun _ _ => rfl), List.map_map]
  rfl
theorem dn_sum : ∀ {s ν : List Int}, IsShape s → ν ∈ dnF s → ν.sum ≤ s.sum
  | [], ν, _, h => nomatch h
  | a :: r, ν, hs, h => by
    unfold dnF at h
    rcases List.mem_append.mp h with q | q
    · by_cases hc : r.getD 0 0 < a
      · rw [if_pos hc] at q
        rw [List.mem_singleton.mp q]
        unfold cons0
        rw [List.sum_cons]
        split
        · have := hs.head.1; omega
        · rw [List.sum_cons]; omega
      · rw [if_neg hc] at q; exact nomatch q
    · obtain ⟨μ, hm, rfl⟩ := List.mem_map.mp q
      have := dn_sum hs.tail hm
      rw [List.sum_cons, List.sum_cons]
      omega
end Oa
namespace Oa
open PySem PySem.Spec PyProof.Rows L2 Evl
def topS (i : Nat) : Stmt := PySem.Challenge.pw_oftenahead_k05_whole_shapes.main.body.getD i (.Pass ⟨0, 0, 0, 0⟩)
/-- the built-in names, the module's numbers -/
structure Gs (mg : Str → Option Value) : Prop where
  n_all : mg "all" = none
  n_any : mg "any" = none
  n_bool : mg "bool" = none
  n_enumerate : mg "enumerate" = none
  n_int : mg "int" = none
  n_isinstance : mg "isinstance" = none
  n_len : mg "len" = none
  n_list : mg "list" = none
  n_min : mg "min" = none
  n_range : mg "range" = none
  n_set : mg "set" = none
  n_sorted : mg "sorted" = none
  n_sum : mg "sum" = none
  n_tuple : mg "tuple" = none
  n_zip : mg "zip" = none
  g_LONGEST : ∃ t, mg "LONGEST" = some (.int 20 t)
section
variable {P : Program} {w : World} {K : PySem.W.Frag} {mg : Str → Option Value} {base : Heap}
/-! ### is_number -/
abbrev st_is_number : Stmt := topS 7
theorem sc_is_number : FnScope ["thing"] ["thing"] (defScope st_is_number) := ⟨rfl, rfl, rfl, by decide +kernel, rfl, by decide +kernel, by decide +kernel⟩

/-- any thing whose type is known -/
def sp_is_number (K : PySem.W.Frag) : Sp := fun vs H Q _ => ∃ (x : V) (m : String) (b1 b2 : Bool), vs = [x] ∧ (∀ H1, Ex H H1 → TyX K H1 x (.type m)) ∧ kitB m "int" = some b1 ∧ kitB m "bool" = some b2 ∧ RetV (.bl (b1 && !b2)) H Q
theorem ev_is_number {K : PySem.W.Frag} {H : Hp} {i : Int} : SpV (sp_is_number K) [.int i] H (.bl true) :=
  spv fun H1 e Q q E => ⟨.int i, "int", true, false, rfl, fun H2 _ => tyx_int i, by decide +kernel, by decide +kernel, q⟩
theorem d_is_number (G : Gs mg) (p : Pl K mg "is_number" st_is_number ["thing"])  : Def P w K mg base CX0 1 "is_number" ["thing"] (sp_is_number K) := by
  refine p.ok (k := 0) sc_is_number (fun vs H Q E h => ?_) (fun f cdv A outer s H vs Q E hr h => ?_)
  · obtain ⟨x, m, b1, b2, rfl, _⟩ := h
    rfl
  · obtain ⟨x, m, b1, b2, rfl, ty, k1, k2, q⟩ := h
    refine ⟨_, (pss_one (ps_ret (pe_and (pe_callB call_isi (by rfl) G.n_isinstance (by decide +kernel) (pa_cons (pv 0) (pa_cons (pe_bltn (v := .ty "int") (by rfl) G.n_int (by decide +kernel) rfl) pa_nil))) (pe_one (pe_not (pe_callB call_isi (by rfl) G.n_isinstance (by decide +kernel) (pa_cons (pv 0) (pa_cons (pe_bltn (v := .ty "bool") (by rfl) G.n_bool (by decide +kernel) rfl) pa_nil)))))))), ?_⟩
    exact s_ret (ev_andV (ev_isi (ea_cons (ev_var rfl) (ea_cons ev_c ea_nil)) (fun H1 e => ty H1 e) k1) fun _ => ev_notV (ev_isi (ea_cons (ev_var rfl) (ea_cons ev_c ea_nil)) (fun H1 e => ty H1 e) k2)) fun H2 e2 => q H2 e2
/-! ### check_row -/
abbrev st_check_row : Stmt := topS 8
theorem sc_check_row : FnScope ["row", "sign"] ["row"] (defScope st_check_row) := ⟨rfl, rfl, rfl, by decide +kernel, rfl, by decide +kernel, by decide +kernel⟩

def sp_check_row (K : PySem.W.Frag) : Sp := fun vs H Q _ => ∃ (a : Addr) (ns : List Int), vs = [.ref a] ∧ SqL K H a (ns.map V.int) ∧ ns.length ≤ 20 ∧ RetV .non H Q
theorem ev_check_row {K : PySem.W.Frag} {H : Hp} {a : Addr} {ns : List Int} (h : SqL K H a (ns.map V.int)) (hl : ns.length ≤ 20) : SpV (sp_check_row K) [.ref a] H .non :=
  spv fun H1 e Q q E => ⟨a, ns, rfl, ex_l e h, hl, q⟩
theorem d_check_row (G : Gs mg) (p : Pl K mg "check_row" st_check_row ["row"]) (D_is_number : Def P w K mg base CX0 1 "is_number" ["thing"] (sp_is_number K)) : Def P w K mg base CX0 2 "check_row" ["row"] (sp_check_row K) := by
  refine p.ok (k := 1) sc_check_row (fun vs H Q E h => ?_) (fun f cdv A outer s H vs Q E hr h => ?_)
  · obtain ⟨a, ns, rfl, _⟩ := h
    rfl
  · obtain ⟨a, ns, rfl, hS, hl, q⟩ := h
    refine ⟨_, (pss_one (ps_if (PW.pt (pw_or (pt_not (pt_val (pe_callB call_isi (by rfl) G.n_isinstance (by decide +kernel) (pa_cons (pv 0) (pa_cons (pe_bltn (v := .ty "list") (by rfl) G.n_list (by decide +kernel) rfl) pa_nil))))) (pw_or (pt_cmpR op_gt (pe_callB call_len_seq (by rfl) G.n_len (by decide +kernel) (pa_cons (pv 0) pa_nil)) (pe_glob (v := .int 20) (by rfl) G.g_LONGEST.choose_spec ⟨_, rfl⟩) (nomark _)) (pw_or1 (pt_not (pt_val (pe_callB (cr_all rfl) (by rfl) G.n_all (by decide +kernel) (pa_cons (pe_lc (own := [("sign", 1)]) (g := (gName 1)) (tt := tYes) (te := (tCall (sp_is_number K) [] _ (tCons (tVar 1) tNil))) rfl sc_check_row.nd (pi_list (pv 0)) (blkOk_by (own := [("sign", 1)]) (N := ["row", "sign"]) (sc := defScope st_check_row) (by decide +kernel)) (fun _ _ _ _ _ => (pg_name (i := 1) sc_check_row.nd rfl (.inl rfl))) (fun _ _ _ _ _ => pts_nil) (fun _ _ _ _ _ => (pe_fn D_is_number (by decide) hr (by rfl) pass0 (pa_cons (pv 1) pa_nil)))) pa_nil))))))))
      (pss_one ps_never)
      pss_nil)), ?_⟩
    refine s_when (b := false) (et_is (et_or (a := false) (et_not (a := true) (et_B (ev_isi (ea_cons (ev_var rfl) (ea_cons ev_c ea_nil)) (fun H1 e => tyx_list (ex_l e hS)) (by decide +kernel)))) fun _ => et_or (a := false) (et_is (et_test (ev_op (ev_len (ev_var rfl) hS) ev_c rv_I0)) ?_) fun _ => et_not (a := true) (et_B ?_)) rfl) (fun hb => nomatch hb) fun _ H1 e1 => q H1 e1
    · rw [List.length_map]; exact decide_eq_false (by omega)
    · exact ev_allL (ev_var rfl) hS (by rw [List.length_map]; omega) (fun x => rfl) fun i x H1 e hi => by
        obtain ⟨n, _, rfl⟩ := int_at hi
        exact ev_call (ea_cons (ev_var rfl) ea_nil) ev_is_number
/-! ### left_for -/
abbrev st_left_for : Stmt := topS 9
theorem sc_left_for : FnScope ["row", "place", "number"] ["row", "place"] (defScope st_left_for) := ⟨rfl, rfl, rfl, by decide +kernel, rfl, by decide +kernel, by decide +kernel⟩

def sp_left_for (K : PySem.W.Frag) : Sp := fun vs H Q _ => ∃ (a : Addr) (ns : List Int) (i : Nat), vs = [.ref a, .int (i : Int)] ∧ SqL K H a (ns.map V.int) ∧ i < ns.length ∧ RetV (.int (leftF ns i)) H Q
theorem ev_left_for {K : PySem.W.Frag} {H : Hp} {a : Addr} {ns : List Int} {i : Nat} (h : SqL K H a (ns.map V.int)) (hi : i < ns.length) : SpV (sp_left_for K) [.ref a, .int (i : Int)] H (.int (leftF ns i)) :=
  spv fun H1 e Q q E => ⟨a, ns, i, rfl, ex_l e h, hi, q⟩
theorem d_left_for (G : Gs mg) (p : Pl K mg "left_for" st_left_for ["row", "place"])  : Def P w K mg base CX0 1 "left_for" ["row", "place"] (sp_left_for K) := by
  refine p.ok (k := 0) sc_left_for (fun vs H Q E h => ?_) (fun f cdv A outer s H vs Q E hr h => ?_)
  · obtain ⟨a, ns, i, rfl, _⟩ := h
    rfl
  · obtain ⟨a, ns, i, rfl, hS, hi, q⟩ := h
    refine ⟨_, (pss_cons (ps_set (i := 2) sc_left_for.nd rfl (.inl rfl) (pe_ix ix_list (pv 0) (pv 1) (fun _ _ => rfl)))
      (pss_cons (ps_if (pt_cmpR op_le (pv 2) pe_int (nomark _))
      (pss_one (ps_ret (pe_ifExp (pt_cmpR op_eq (pv 2) pe_int (nomark _)) pe_int pe_int)))
      pss_nil)
      (pss_one (ps_ret (pe_op op_sub (pe_bm PySem.F.plainAttrs_list PySem.F.slot_list_count PySem.F.type_list_count mt_lcount (pe_slice sl_list (pv 0) po_none (po_some (pv 1))) (pa_cons (pe_op op_sub (pv 2) pe_int) pa_nil)) (pe_bm PySem.F.plainAttrs_list PySem.F.slot_list_count PySem.F.type_list_count mt_lcount (pe_slice sl_list (pv 0) po_none (po_some (pv 1))) (pa_cons (pv 2) pa_nil))))))), ?_⟩
    refine q_asg (v := .int (ns.getD i 0)) (ev_op (ev_var rfl) (ev_var rfl) (rv_ixL hS (at_ints hi))) fun H1 e1 => ?_
    refine q_when (et_test (ev_op (ev_var rfl) ev_c rv_I0)) (fun hb H2 e2 => ?_) (fun hb H2 e2 => ?_)
    · have hb' := of_decide_eq_true hb
      refine s_ret (v := .int (leftF ns i)) (ev_if (et_test (ev_op (ev_var rfl) ev_c (rv_eq rfl))) (fun hc => ev_is ev_c ?_) (fun hc => ev_is ev_c ?_)) fun H3 e3 => q H3 (e1.trans (e2.trans e3))
      · have hc' : ns.getD i 0 = 0 := V.int.inj (of_decide_eq_true hc)
        unfold leftF
        rw [if_pos hb', if_pos hc']
      · have hc' : ¬ ns.getD i 0 = 0 := fun z => of_decide_eq_false hc (by rw [z])
        unfold leftF
        rw [if_pos hb', if_neg hc']
    · have hb' := of_decide_eq_false hb
      refine s_ret (v := .int (leftF ns i)) (ev_is (ev_op (ev_countL (el_is (el_sl (ev_var rfl) eo_none (eo_some (ev_var rfl)) (ex_l (e1.trans e2) hS)) (cut_to ns i)) (ev_op (ev_var rfl) ev_c rv_I0)) (ev_countL (el_is (el_sl (ev_var rfl) eo_none (eo_some (ev_var rfl)) (ex_l (e1.trans e2) hS)) (cut_to ns i)) (ev_var rfl)) rv_I0) ?_) fun H3 e3 => q H3 (e1.trans (e2.trans e3))
      unfold leftF
      rw [if_neg hb']
/-! ### first_wrong -/
abbrev st_first_wrong : Stmt := topS 10
theorem sc_first_wrong : FnScope ["row", "place"] ["row"] (defScope st_first_wrong) := ⟨rfl, rfl, rfl, by decide +kernel, rfl, by decide +kernel, by decide +kernel⟩

def sp_first_wrong (K : PySem.W.Frag) : Sp := fun vs H Q _ => ∃ (a : Addr) (ns : List Int), vs = [.ref a] ∧ SqL K H a (ns.map V.int) ∧ ns.length ≤ 1000 ∧ RetV (.int (firstWrongF ns)) H Q
theorem ev_first_wrong {K : PySem.W.Frag} {H : Hp} {a : Addr} {ns : List Int} (h : SqL K H a (ns.map V.int)) (hl : ns.length ≤ 1000) : SpV (sp_first_wrong K) [.ref a] H (.int (firstWrongF ns)) :=
  spv fun H1 e Q q E => ⟨a, ns, rfl, ex_l e h, hl, q⟩
theorem d_first_wrong (G : Gs mg) (p : Pl K mg "first_wrong" st_first_wrong ["row"]) (D_left_for : Def P w K mg base CX0 1 "left_for" ["row", "place"] (sp_left_for K)) : Def P w K mg base CX0 2 "first_wrong" ["row"] (sp_first_wrong K) := by
  refine p.ok (k := 1) sc_first_wrong (fun vs H Q E h => ?_) (fun f cdv A outer s H vs Q E hr h => ?_)
  · obtain ⟨a, ns, rfl, _⟩ := h
    rfl
  · obtain ⟨a, ns, rfl, hS, hl, q⟩ := h
    refine ⟨_, (pss_cons (ps_for PassesOwn.never rfl (pi_range1 (by rfl) G.n_range (pa_cons (pe_callB call_len_seq (by rfl) G.n_len (by decide +kernel) (pa_cons (pv 0) pa_nil)) pa_nil)) (pg_name (i := 1) sc_first_wrong.nd rfl (.inl rfl))
      (pss_one (ps_if (pt_cmpR op_lt (pe_fn D_left_for (by decide) hr (by rfl) pass0 (pa_cons (pv 0) (pa_cons (pv 1) pa_nil))) pe_int (nomark _))
      (pss_one (ps_ret (pv 1)))
      pss_nil)))
      (pss_one (ps_ret (pe_un un_neg pe_int)))), ?_⟩
    refine q_forR1 (n := ((ns.map V.int).length : Int)) (ea_cons (ev_len (ev_var rfl) hS) ea_nil) (by rw [List.length_map]; omega) (fun i σ' H' => ∃ y1, σ' = [some (.ref a), y1] ∧ Ex H H' ∧ ∀ j, j < i → 1 ≤ leftF ns j)
      (fun H1 e1 => ⟨none, rfl, e1, fun j hj => absurd hj (Nat.not_lt_zero _)⟩) (fun i σ' H' hi hP => ?_) (fun σ' H' hP => ?_)
    · obtain ⟨y1, rfl, eH, hP⟩ := hP
      rw [List.length_map] at hi
      have hi' : i < ns.length := by omega
      refine s_when (et_test (ev_op (ev_call (ea_cons (ev_var rfl) (ea_cons (ev_var rfl) ea_nil)) (ev_left_for (ex_l eH hS) hi')) ev_c rv_I0)) (fun hb H2 e2 => ?_) (fun hb H2 e2 => ?_)
      · have hb' := of_decide_eq_true hb
        rw [firstWrong_at hi' hP hb'] at q
        exact s_ret (ev_var rfl) fun H3 e3 => q H3 (eH.trans (e2.trans e3))
      · have hb' := of_decide_eq_false hb
        refine ⟨_, rfl, eH.trans e2, fun j hj => ?_⟩
        by_cases e : j = i
        · subst e; omega
        · exact hP j (by omega)
    · obtain ⟨y1, rfl, eH, hP⟩ := hP
      have hg : Good ns := fun i hi => hP i (by rw [List.length_map]; simpa using hi)
      rw [firstWrong_good.mpr hg] at q
      exact s_ret (ev_un ev_c ru_neg) fun H3 e3 => q H3 (eH.trans e3)
/-! ### check_counts -/
abbrev st_check_counts : Stmt := topS 12
theorem sc_check_counts : FnScope ["row"] ["row"] (defScope st_check_counts) := ⟨rfl, rfl, rfl, by decide +kernel, rfl, by decide +kernel, by decide +kernel⟩

def sp_check_counts (K : PySem.W.Frag) : Sp := fun vs H Q _ => ∃ (a : Addr) (ns : List Int), vs = [.ref a] ∧ SqL K H a (ns.map V.int) ∧ ns.length ≤ 20 ∧ Good ns ∧ RetV .non H Q
theorem ev_check_counts {K : PySem.W.Frag} {H : Hp} {a : Addr} {ns : List Int} (h : SqL K H a (ns.map V.int)) (hl : ns.length ≤ 20) (hg : Good ns) : SpV (sp_check_counts K) [.ref a] H .non :=
  spv fun H1 e Q q E => ⟨a, ns, rfl, ex_l e h, hl, hg, q⟩
theorem d_check_counts (G : Gs mg) (p : Pl K mg "check_counts" st_check_counts ["row"]) (D_check_row : Def P w K mg base CX0 2 "check_row" ["row"] (sp_check_row K)) (D_first_wrong : Def P w K mg base CX0 2 "first_wrong" ["row"] (sp_first_wrong K)) : Def P w K mg base CX0 3 "check_counts" ["row"] (sp_check_counts K) := by
  refine p.ok (k := 2) sc_check_counts (fun vs H Q E h => ?_) (fun f cdv A outer s H vs Q E hr h => ?_)
  · obtain ⟨a, ns, rfl, _⟩ := h
    rfl
  · obtain ⟨a, ns, rfl, hS, hl, hg, q⟩ := h
    refine ⟨_, (pss_cons (ps_expr (pe_fn D_check_row (by decide) hr (by rfl) pass0 (pa_cons (pv 0) pa_nil)))
      (pss_one (ps_if (pt_cmpR op_ge (pe_fn D_first_wrong (by decide) hr (by rfl) pass0 (pa_cons (pv 0) pa_nil)) pe_int (nomark _))
      (pss_one ps_never)
      pss_nil))), ?_⟩
    refine q_drop (ev_call (ea_cons (ev_var rfl) ea_nil) (ev_check_row hS hl)) fun H1 e1 => ?_
    exact s_when (b := false) (et_test (ev_is (ev_op (ev_call (ea_cons (ev_var rfl) ea_nil) (ev_first_wrong (ex_l e1 hS) (by omega))) ev_c rv_I0) (by rw [firstWrong_good.mpr hg]; rfl))) (fun hb => nomatch hb) fun _ H2 e2 => q H2 (e1.trans e2)
/-! ### shape_of -/
abbrev st_shape_of : Stmt := topS 14
theorem sc_shape_of : FnScope ["row", "number"] ["row"] (defScope st_shape_of) := ⟨rfl, rfl, rfl, by decide +kernel, rfl, by decide +kernel, by decide +kernel⟩

def sp_shape_of (K : PySem.W.Frag) : Sp := fun vs H Q _ => ∃ (a : Addr) (ns : List Int), vs = [.ref a] ∧ SqL K H a (ns.map V.int) ∧ ns.length ≤ 20 ∧ Good ns ∧ RetL ((shapeF ns).map V.int) H Q
theorem el_shape_of {K : PySem.W.Frag} {H : Hp} {a : Addr} {ns : List Int} (h : SqL K H a (ns.map V.int)) (hl : ns.length ≤ 20) (hg : Good ns) : SpL (sp_shape_of K) [.ref a] H ((shapeF ns).map V.int) :=
  spl fun H1 e Q q E => ⟨a, ns, rfl, ex_l e h, hl, hg, q⟩
theorem given_shape (ns : List Int) : given (knownF ns : Int).toNat (fun _ => true) (fun k => .int ((ns.count (k : Int) : Nat) : Int)) = (shapeF ns).map V.int := by
  rw [given_all, Int.toNat_natCast]
  unfold shapeF
  rw [List.map_map]
  rfl
theorem d_shape_of (G : Gs mg) (p : Pl K mg "shape_of" st_shape_of ["row"]) (D_check_counts : Def P w K mg base CX0 3 "check_counts" ["row"] (sp_check_counts K)) : Def P w K mg base CX0 4 "shape_of" ["row"] (sp_shape_of K) := by
  refine p.ok (k := 3) sc_shape_of (fun vs H Q E h => ?_) (fun f cdv A outer s H vs Q E hr h => ?_)
  · obtain ⟨a, ns, rfl, _⟩ := h
    rfl
  · obtain ⟨a, ns, rfl, hS, hl, hg, q⟩ := h
    refine ⟨_, (pss_cons (ps_expr (pe_fn D_check_counts (by decide) hr (by rfl) pass0 (pa_cons (pv 0) pa_nil)))
      (pss_one (ps_ret (pe_lc (own := [("number", 1)]) (g := (gName 1)) (tt := tYes) (te := (tBM K "list" (rCntI K) (tVar 0) (tCons (tVar 1) tNil))) rfl sc_shape_of.nd (pi_range1 (by rfl) G.n_range (pa_cons (pe_lenSetD rfl (by rfl) G.n_len (by rfl) G.n_set (pv 0)) pa_nil)) (blkOk_by (own := [("number", 1)]) (N := ["row", "number"]) (sc := defScope st_shape_of) (by decide +kernel)) (fun _ _ _ _ _ => (pg_name (i := 1) sc_shape_of.nd rfl (.inl rfl))) (fun _ _ _ _ _ => pts_nil) (fun _ _ _ _ _ => (pe_bm PySem.F.plainAttrs_list PySem.F.slot_list_count PySem.F.type_list_count mt_lcount (pv 0) (pa_cons (pv 1) pa_nil))))))), ?_⟩
    refine q_drop (ev_call (ea_cons (ev_var rfl) ea_nil) (ev_check_counts hS hl hg)) fun H1 e1 => ?_
    have hk := knownF_le ns
    refine s_retL (el_is (el_lcR1 (n := (knownF ns : Int)) (fun _ => true) (fun k => .int ((ns.count (k : Int) : Nat) : Int)) (ea_cons (ev_lenSet (ev_var rfl) (ex_l e1 hS) (by omega)) ea_nil) ⟨by omega, by omega⟩ (fun x => rfl) (fun _ _ _ _ => et_yes) fun k H2 e2 _ _ => ev_count (ev_var rfl) (ex_l (e1.trans e2) hS) (ev_var rfl)) (given_shape ns)) fun p H2 n e2 a => q p H2 (fresh_back e1 n) (e1.trans e2) a
/-! ### check_shape -/
abbrev st_check_shape : Stmt := topS 15
theorem sc_check_shape : FnScope ["shape", "one", "other"] ["shape"] (defScope st_check_shape) := ⟨rfl, rfl, rfl, by decide +kernel, rfl, by decide +kernel, by decide +kernel⟩

def sp_check_shape (K : PySem.W.Frag) : Sp := fun vs H Q _ => ∃ (a : Addr) (ns : List Int), vs = [.ref a] ∧ SqL K H a (ns.map V.int) ∧ IsShape ns ∧ ns.sum ≤ 20 ∧ RetV .non H Q
theorem ev_check_shape {K : PySem.W.Frag} {H : Hp} {a : Addr} {ns : List Int} (h : SqL K H a (ns.map V.int)) (hs : IsShape ns) (hl : ns.sum ≤ 20) : SpV (sp_check_shape K) [.ref a] H .non :=
  spv fun H1 e Q q E => ⟨a, ns, rfl, ex_l e h, hs, hl, q⟩
theorem shape_fall {ns : List Int} (h : IsShape ns) {i : Nat} {x y : Int} (hx : ns[i]? = some x) (hy : ns[i + 1]? = some y) : y ≤ x := by
  obtain ⟨h1, e1⟩ := List.getElem?_eq_some_iff.mp hx
  obtain ⟨h2, e2⟩ := List.getElem?_eq_some_iff.mp hy
  rw [← e1, ← e2]
  exact List.pairwise_iff_getElem.mp h.1 i (i + 1) h1 h2 (Nat.lt_succ_self _)
theorem rep_any (n : Nat) : (List.replicate n false).any id = false := by
  rw [List.any_eq_false]
  intro x hx
  rw [List.eq_of_mem_replicate hx]
  decide
theorem d_check_shape (G : Gs mg) (p : Pl K mg "check_shape" st_check_shape ["shape"]) (D_is_number : Def P w K mg base CX0 1 "is_number" ["thing"] (sp_is_number K)) : Def P w K mg base CX0 2 "check_shape" ["shape"] (sp_check_shape K) := by
  refine p.ok (k := 1) sc_check_shape (fun vs H Q E h => ?_) (fun f cdv A outer s H vs Q E hr h => ?_)
  · obtain ⟨a, ns, rfl, _⟩ := h
    rfl
  · obtain ⟨a, ns, rfl, hS, hs, hl, q⟩ := h
    refine ⟨_, (pss_cons (ps_if (PW.pt (pw_or (pt_not (pt_val (pe_callB call_isi (by rfl) G.n_isinstance (by decide +kernel) (pa_cons (pv 0) (pa_cons (pe_bltn (v := .ty "list") (by rfl) G.n_list (by decide +kernel) rfl) pa_nil))))) (pw_or1 (pt_not (pt_val (pe_callB (cr_all rfl) (by rfl) G.n_all (by decide +kernel) (pa_cons (pe_lc (own := [("one", 1)]) (g := (gName 1)) (tt := tYes) (te := (tAndV (tCall (sp_is_number K) [] _ (tCons (tVar 1) tNil)) (tOp _ (tVar 1) (tC _)))) rfl sc_check_shape.nd (pi_list (pv 0)) (blkOk_by (own := [("one", 1)]) (N := ["shape", "one", "other"]) (sc := defScope st_check_shape) (by decide +kernel)) (fun _ _ _ _ _ => (pg_name (i := 1) sc_check_shape.nd rfl (.inl rfl))) (fun _ _ _ _ _ => pts_nil) (fun _ _ _ _ _ => (pe_and (pe_fn D_is_number (by decide) hr (by rfl) pass0 (pa_cons (pv 1) pa_nil)) (pe_one (pe_cmpR op_gt (pv 1) pe_int (nomark _)))))) pa_nil)))))))
      (pss_one ps_never)
      pss_nil)
      (pss_one (ps_if (PW.pt (pw_or (pt_cmpR op_gt (pe_callB (cr_sum rfl) (by rfl) G.n_sum (by decide +kernel) (pa_cons (pv 0) pa_nil)) (pe_glob (v := .int 20) (by rfl) G.g_LONGEST.choose_spec ⟨_, rfl⟩) (nomark _)) (pw_or1 (pt_val (pe_callB (cr_any rfl) (by rfl) G.n_any (by decide +kernel) (pa_cons (pe_lc (own := [("one", 1), ("other", 2)]) (g := (gTup K 2 (gCons (gName 1) (gCons (gName 2) gNil)))) (tt := tYes) (te := (tOp _ (tVar 1) (tVar 2))) rfl sc_check_shape.nd (pi_zip (by rfl) G.n_zip (pa_cons (pv 0) (pa_cons (pe_slice sl_list (pv 0) (po_some pe_int) po_none) pa_nil))) (blkOk_by (own := [("one", 1), ("other", 2)]) (N := ["shape", "one", "other"]) (sc := defScope st_check_shape) (by decide +kernel)) (fun _ _ _ _ _ => (pg_tup rfl (pgs_cons (pg_name (i := 1) sc_check_shape.nd rfl (.inl rfl)) (pgs_cons (pg_name (i := 2) sc_check_shape.nd rfl (.inl rfl)) pgs_nil)))) (fun _ _ _ _ _ => pts_nil) (fun _ _ _ _ _ => (pe_cmpR op_lt (pv 1) (pv 2) (nomark _)))) pa_nil))))))
      (pss_one ps_never)
      pss_nil))), ?_⟩
    have hlen : ns.length ≤ 20 := by have := shape_len hs.2; omega
    refine q_when (b := false) (et_is (et_or (a := false) (b := false) (et_not (a := true) (et_B (ev_isi (ea_cons (ev_var rfl) (ea_cons ev_c ea_nil)) (fun H1 e => tyx_list (ex_l e hS)) (by decide +kernel)))) fun _ => et_not (a := true) (et_B (ev_allL (ev_var rfl) hS (by rw [List.length_map]; omega) (fun x => rfl) fun i x H1 e hi => ?_))) rfl) (fun hb => nomatch hb) fun _ H1 e1 => ?_
    · obtain ⟨n, hn, rfl⟩ := int_at hi
      have h1 := hs.2 n (List.mem_of_getElem? hn)
      exact ev_is (ev_andV (a := true) (b := true) (ev_call (ea_cons (ev_var rfl) ea_nil) ev_is_number) fun _ => ev_is (ev_op (ev_var rfl) ev_c rv_I0) (by rw [decide_eq_true (show n > 0 by omega)])) rfl
    refine s_when (b := false) (et_is (et_or (a := false) (b := false) (et_test (ev_is (ev_op (ev_sum (ev_var rfl) (ex_l e1 hS)) ev_c rv_I0) (by rw [decide_eq_false (by omega)]))) fun _ => et_B (ev_is (ev_any (bs := List.replicate (ns.length - 1) false) (el_is (el_lcZ (xs := ns.map V.int) (ys := (ns.drop 1).map V.int) (n := ns.length - 1) (fun _ => true) (fun _ => .bl false) (ev_var rfl) (ex_l e1 hS) (el_is (el_sl (ev_var rfl) (eo_some (ev_is (w := .int ((1 : Nat) : Int)) ev_c rfl)) eo_none (ex_l e1 hS)) (cut_from ns 1)) (by rw [List.length_map]; omega) (by rw [List.length_map, List.length_drop]; exact Nat.le_refl _) (.inr (by rw [List.length_map, List.length_drop]; exact Nat.le_refl _)) (by omega) (fun x y => rfl) (fun _ _ _ _ _ _ _ => et_yes) fun i x y H2 e2 hx hy _ => ?_) ?_)) (by rw [rep_any]))) rfl) (fun hb => nomatch hb) fun _ H2 e2 => q H2 (e1.trans e2)
    · obtain ⟨m, hm, rfl⟩ := int_at hx
      obtain ⟨n, hn, rfl⟩ := int_at hy
      rw [List.getElem?_drop, Nat.add_comm] at hn
      have := shape_fall hs hm hn
      exact ev_is (ev_op (ev_var rfl) (ev_var rfl) rv_I0) (by rw [decide_eq_false (by omega)])
    · rw [given_all, List.map_const', List.length_range, List.map_replicate]
/-! ### of_shape -/
abbrev st_of_shape : Stmt := topS 16
theorem sc_of_shape : FnScope ["shape", "top", "bottom", "number", "at", "often", "place", "below", "one"] ["shape"] (defScope st_of_shape) := ⟨rfl, rfl, rfl, by decide +kernel, rfl, by decide +kernel, by decide +kernel⟩

def sp_of_shape (K : PySem.W.Frag) : Sp := fun vs H Q _ => ∃ (a : Addr) (ns : List Int), vs = [.ref a] ∧ SqL K H a (ns.map V.int) ∧ IsShape ns ∧ ns.sum ≤ 20 ∧ RetV (.int (ofF ns)) H Q
theorem ev_of_shape {K : PySem.W.Frag} {H : Hp} {a : Addr} {ns : List Int} (h : SqL K H a (ns.map V.int)) (hs : IsShape ns) (hl : ns.sum ≤ 20) : SpV (sp_of_shape K) [.ref a] H (.int (ofF ns)) :=
  spv fun H1 e Q q E => ⟨a, ns, rfl, ex_l e h, hs, hl, q⟩
theorem d_of_shape (G : Gs mg) (p : Pl K mg "of_shape" st_of_shape ["shape"]) (D_check_shape : Def P w K mg base CX0 2 "check_shape" ["shape"] (sp_check_shape K)) : Def P w K mg base CX0 3 "of_shape" ["shape"] (sp_of_shape K) := by
  refine p.ok (k := 2) sc_of_shape (fun vs H Q E h => ?_) (fun f cdv A outer s H vs Q E hr h => ?_)
  · obtain ⟨a, ns, rfl, _⟩ := h
    rfl
  · obtain ⟨a, ns, rfl, hS, hs, hl, q⟩ := h
    refine ⟨_, (pss_cons (ps_expr (pe_fn D_check_shape (by decide) hr (by rfl) pass0 (pa_cons (pv 0) pa_nil)))
      (pss_cons (ps_asg (pe_tup (pa_cons pe_int (pa_cons pe_int pa_nil))) (pg_tup rfl (pgs_cons (pg_name (i := 1) sc_of_shape.nd rfl (.inl rfl)) (pgs_cons (pg_name (i := 2) sc_of_shape.nd rfl (.inl rfl)) pgs_nil))))
      (pss_cons (ps_for PassesOwn.never rfl (pi_range1 (by rfl) G.n_range (pa_cons (pe_callB (cr_sum rfl) (by rfl) G.n_sum (by decide +kernel) (pa_cons (pv 0) pa_nil)) pa_nil)) (pg_name (i := 3) sc_of_shape.nd rfl (.inl rfl))
      (pss_one (ps_set (i := 1) sc_of_shape.nd rfl (.inl rfl) (pe_op op_mul (pv 1) (pe_op op_add (pv 3) pe_int)))))
      (pss_cons (ps_for PassesOwn.never rfl (pi_enum (by rfl) G.n_enumerate (pa_cons (pv 0) pa_nil)) (pg_tup rfl (pgs_cons (pg_name (i := 4) sc_of_shape.nd rfl (.inl rfl)) (pgs_cons (pg_name (i := 5) sc_of_shape.nd rfl (.inl rfl)) pgs_nil)))
      (pss_one (ps_for PassesOwn.never rfl (pi_range1 (by rfl) G.n_range (pa_cons (pv 5) pa_nil)) (pg_name (i := 6) sc_of_shape.nd rfl (.inr rfl))
      (pss_cons (ps_set (i := 7) sc_of_shape.nd rfl (.inl rfl) (pe_callB call_len_seq (by rfl) G.n_len (by decide +kernel) (pa_cons (pe_lc (own := [("one", 8)]) (g := (gName 8)) (tt := (tTest (tOp _ (tVar 8) (tVar 6)))) (te := (tVar 8)) rfl sc_of_shape.nd (pi_list (pe_slice sl_list (pv 0) (po_some (pe_op op_add (pv 4) pe_int)) po_none)) (blkOk_by (own := [("one", 8)]) (N := ["shape", "top", "bottom", "number", "at", "often", "place", "below", "one"]) (sc := defScope st_of_shape) (by decide +kernel)) (fun _ _ _ _ _ => (pg_name (i := 8) sc_of_shape.nd rfl (.inl rfl))) (fun _ _ _ _ _ => (pts_one (pt_cmpR op_gt (pv 8) (pv 6) (nomark _)))) (fun _ _ _ _ _ => (pv 8))) pa_nil)))
      (pss_one (ps_set (i := 2) sc_of_shape.nd rfl (.inl rfl) (pe_op op_mul (pv 2) (pe_op op_add (pe_op op_sub (pv 5) (pv 6)) (pv 7)))))))))
      (pss_one (ps_ret (pe_op op_fdivW (pv 1) (pv 2)))))))), ?_⟩
    have hlen : ns.length ≤ 20 := by have := shape_len hs.2; omega
    have hsn : 0 ≤ ns.sum := by have := shape_len hs.2; omega
    refine q_drop (ev_call (ea_cons (ev_var rfl) ea_nil) (ev_check_shape hS hs hl)) fun H1 e1 => ?_
    refine q_tup2 (v := .int 1) (w := .int 1) ev_c ev_c fun H2 e2 => ?_
    refine q_forR1 (n := ns.sum) (ea_cons (ev_sum (ev_var rfl) (ex_l (e1.trans e2) hS)) ea_nil) ⟨by omega, by omega⟩
      (fun i σ' H' => ∃ y3, σ' = [some (.ref a), some (.int (topF i)), some (.int 1), y3, none, none, none, none, none] ∧ Ex H H') (fun H3 e3 => ⟨_, rfl, e1.trans (e2.trans e3)⟩) (fun i σ' H' hi hP => ?_) (fun σ' H' hP => ?_)
    · obtain ⟨y3, rfl, eH⟩ := hP
      exact s_asg (v := .int (topF (i + 1))) (ev_op (ev_var rfl) (ev_op (ev_var rfl) ev_c rv_I0) (rv_I (.inr ⟨by omega, by omega⟩))) fun H3 e3 => ⟨_, rfl, eH.trans e3⟩
    obtain ⟨y3, rfl, eH⟩ := hP
    refine q_forE (ev_var rfl) (ex_l eH hS) (fun i σ' H' => ∃ b y4 y5 y6 y7 y8, σ' = [some (.ref a), some (.int (topF ns.sum.toNat)), some (.int b), y3, y4, y5, y6, y7, y8] ∧ Ex H H' ∧ b * hookF (ns.drop i) = hookF ns)
      (fun H3 e3 => ⟨1, _, _, _, _, _, rfl, eH.trans e3, by rw [List.drop_zero, Int.one_mul]⟩) (fun i σ' H' _ hP => by obtain ⟨_, _, _, _, _, _, _, e, _⟩ := hP; exact ex_l e hS) (fun i x σ' H' T hi hP nT => ?_) (fun σ' H' hP => ?_)
    · obtain ⟨b, y4, y5, y6, y7, y8, rfl, eQ, hb⟩ := hP
      obtain ⟨t, ht, rfl⟩ := int_at hi
      have hi' : i < ns.length := (List.getElem?_eq_some_iff.mp ht).1
      have ht1 := hs.2 t (List.mem_of_getElem? ht)
      have ht20 : t ≤ 20 := by have := mem_sum_le hs.2 (List.mem_of_getElem? ht); omega
      have ed : ns.drop i = t :: ns.drop (i + 1) := by
        rw [List.drop_eq_getElem_cons hi']
        congr 1
        exact (List.getElem?_eq_some_iff.mp ht).2
      have eH3 : Ex H (upd H' T (.tup [.int (i : Int), .int t])) := eQ.trans (Ex.new nT)
      revert eH3
      generalize upd H' T (.tup [.int (i : Int), .int t]) = H3
      intro eH3
      refine s_forR1 (n := t) (ea_cons (ev_var rfl) ea_nil) ⟨by omega, by omega⟩ (fun p σ'' H'' => ∃ z6 z7 z8, σ'' = [some (.ref a), some (.int (topF ns.sum.toNat)), some (.int (b * rowP t (ns.drop (i + 1)) p)), y3, some (.int (i : Int)), some (.int t), z6, z7, z8] ∧ Ex H H'')
        (fun H4 e4 => ⟨y6, y7, y8, by rw [show rowP t (ns.drop (i + 1)) 0 = 1 from rfl, Int.mul_one]; rfl, eH3.trans e4⟩) (fun p σ'' H'' hp hP => ?_) (fun σ'' H'' hP => ?_)
      · obtain ⟨z6, z7, z8, rfl, eR⟩ := hP
        have hcn : 0 ≤ cntF (ns.drop (i + 1)) (p : Int) ∧ cntF (ns.drop (i + 1)) (p : Int) ≤ 20 := by
          unfold cntF
          have h1 := List.length_filter_le (fun x => decide ((p : Int) < x)) (ns.drop (i + 1))
          rw [List.length_drop] at h1
          omega
        refine q_asg (v := .int (cntF (ns.drop (i + 1)) (p : Int))) (ev_is (ev_lenN (el_is (el_lcNL (xs := (ns.drop (i + 1)).map V.int) (fun k => decide ((p : Int) < (ns.drop (i + 1)).getD k 0)) (fun k => .int ((ns.drop (i + 1)).getD k 0)) (el_is (el_sl (ev_var rfl) (eo_some (ev_is (w := .int ((i + 1 : Nat) : Int)) (ev_op (ev_var rfl) ev_c rv_I0) (by congr 1))) eo_none (ex_l eR hS)) (cut_from ns (i + 1))) (by rw [List.length_map, List.length_drop]; omega) (fun x => rfl) (fun k x H4 e4 hk => ?_) fun k x H4 e4 hk _ => ?_) (given_over ns (i + 1) p))) ?_) fun H4 e4 => ?_
        · obtain ⟨m, hm, rfl⟩ := int_at hk
          have : (ns.drop (i + 1)).getD k 0 = m := by rw [List.getD_eq_getElem?_getD, hm]; rfl
          rw [this]
          exact et_test (ev_op (ev_var rfl) (ev_var rfl) rv_I0)
        · obtain ⟨m, hm, rfl⟩ := int_at hk
          have : (ns.drop (i + 1)).getD k 0 = m := by rw [List.getD_eq_getElem?_getD, hm]; rfl
          rw [this]
          exact ev_var rfl
        · unfold cntF; rw [List.length_map]
        refine s_asg (v := .int (b * rowP t (ns.drop (i + 1)) (p + 1))) (ev_is (ev_op (ev_var rfl) (ev_op (ev_op (ev_var rfl) (ev_var rfl) rv_I0) (ev_var rfl) rv_I0) (rv_I (.inr ⟨by omega, by omega⟩))) ?_) fun H5 e5 => ⟨_, _, _, rfl, eR.trans (e4.trans e5)⟩
        rw [show rowP t (ns.drop (i + 1)) (p + 1) = rowP t (ns.drop (i + 1)) p * (t - (p : Int) + cntF (ns.drop (i + 1)) (p : Int)) from rfl, Int.mul_assoc]
      · obtain ⟨z6, z7, z8, rfl, eR⟩ := hP
        refine ⟨_, _, _, _, _, _, rfl, eR, ?_⟩
        rw [← hb, ed, show hookF (t :: ns.drop (i + 1)) = rowP t (ns.drop (i + 1)) t.toNat * hookF (ns.drop (i + 1)) from rfl, Int.mul_assoc]
    · obtain ⟨b, y4, y5, y6, y7, y8, rfl, eQ, hb⟩ := hP
      have hd : ns.drop (ns.map V.int).length = [] := by rw [List.length_map]; exact List.drop_of_length_le (Nat.le_refl _)
      rw [hd, show hookF [] = 1 from rfl, Int.mul_one] at hb
      subst hb
      exact s_ret (v := .int (ofF ns)) (ev_op (ev_var rfl) (ev_var rfl) (rv_I (wide_div (hook_pos hs hl) (hook_fit hs hl) (by decide) (by decide)))) fun H3 e3 => q H3 (eQ.trans e3)
/-! ### _law_cell_at -/
abbrev st_L_cell_at : Stmt := topS 18
theorem sc_L_cell_at : FnScope ["_law_script", "_law_k"] ["_law_script", "_law_k"] (defScope st_L_cell_at) := ⟨rfl, rfl, rfl, by decide +kernel, rfl, by decide +kernel, by decide +kernel⟩

def sp_L_cell_at (K : PySem.W.Frag) : Sp := fun vs H Q _ => ∃ (a : Addr) (ns : List Int) (k : Nat), vs = [.ref a, .int (k : Int)] ∧ SqL K H a (ns.map V.int) ∧ RetV (.int (cellAt ns k)) H Q
theorem ev_cell_at {K : PySem.W.Frag} {H : Hp} {a : Addr} {ns : List Int} {k : Nat} (h : SqL K H a (ns.map V.int)) : SpV (sp_L_cell_at K) [.ref a, .int (k : Int)] H (.int (cellAt ns k)) :=
  spv fun H1 e Q q E => ⟨a, ns, k, rfl, ex_l e h, q⟩
theorem d_L_cell_at (G : Gs mg) (p : Pl K mg "_law_cell_at" st_L_cell_at ["_law_script", "_law_k"])  : Def P w K mg base CX0 1 "_law_cell_at" ["_law_script", "_law_k"] (sp_L_cell_at K) := by
  refine p.ok (k := 0) sc_L_cell_at (fun vs H Q E h => ?_) (fun f cdv A outer s H vs Q E hr h => ?_)
  · obtain ⟨a, ns, k, rfl, _⟩ := h
    rfl
  · obtain ⟨a, ns, k, rfl, hS, q⟩ := h
    refine ⟨_, (pss_cons (ps_if (pt_cmpR op_lt (pv 1) (pe_callB call_len_seq (by rfl) G.n_len (by decide +kernel) (pa_cons (pv 0) pa_nil)) (nomark _))
      (pss_one (ps_ret (pe_ix ix_list (pv 0) (pv 1) (fun _ _ => rfl))))
      pss_nil)
      (pss_one (ps_ret pe_int))), ?_⟩
    refine q_when (b := decide ((k : Int) < ((ns.map V.int).length : Int))) (et_test (ev_op (ev_var rfl) (ev_len (ev_var rfl) hS) rv_I0)) (fun hb H1 e1 => ?_) (fun hb H1 e1 => ?_)
    · have hk : k < ns.length := by
        have := of_decide_eq_true hb
        rw [List.length_map] at this
        omega
      refine s_ret (ev_op (ev_var rfl) (ev_var rfl) (rv_ixL (ex_l e1 hS) (v := .int (cellAt ns k)) ?_)) fun H2 e2 => q H2 (e1.trans e2)
      refine atI_nat ?_
      rw [List.getElem?_map, List.getElem?_eq_getElem hk]
      unfold cellAt
      rw [List.getD_eq_getElem?_getD, List.getElem?_eq_getElem hk]
      rfl
    · refine s_ret ev_c fun H2 e2 => ?_
      have hk : ns.length ≤ k := by
        have := of_decide_eq_false hb
        rw [List.length_map] at this
        omega
      have e : cellAt ns k = 0 := by
        unfold cellAt
        rw [List.getD_eq_getElem?_getD, List.getElem?_eq_none hk]
        rfl
      rw [e] at q
      exact q H2 (e1.trans e2)
/-! ### _law_draw -/
abbrev st_L_draw : Stmt := topS 19
theorem sc_L_draw : FnScope ["_law_cell", "_law_k", "_law_most", "_law_primes"] ["_law_cell", "_law_k", "_law_most"] (defScope st_L_draw) := ⟨rfl, rfl, rfl, by decide +kernel, rfl, by decide +kernel, by decide +kernel⟩

def sp_L_draw (K : PySem.W.Frag) : Sp := fun vs H Q _ => ∃ (c : Int) (k : Nat) (m : Int), vs = [.int c, .int (k : Int), .int m] ∧ 0 < m ∧ RetV (.int (drawF c k m)) H Q
theorem ev_draw {K : PySem.W.Frag} {H : Hp} {c : Int} {k : Nat} {m : Int} (h : 0 < m) : SpV (sp_L_draw K) [.int c, .int (k : Int), .int m] H (.int (drawF c k m)) :=
  spv fun H1 e Q q E => ⟨c, k, m, rfl, h, q⟩
theorem prime_at (k : Nat) : atI (primes.map V.int) ((k : Int) % 16) = some (.int (primes.getD (k % 16) 1)) := by
  have e : ((k : Int) % 16) = ((k % 16 : Nat) : Int) := by omega
  rw [e]
  have h : k % 16 < primes.length := by show k % 16 < 16; omega
  refine atI_nat ?_
  rw [List.getElem?_map, List.getElem?_eq_getElem h, List.getD_eq_getElem?_getD, List.getElem?_eq_getElem h]
  rfl
theorem prime_pos (k : Nat) : 0 < primes.getD (k % 16) 1 := by
  have h : k % 16 < primes.length := by show k % 16 < 16; omega
  have a : ∀ x ∈ primes, (0 : Int) < x := by decide
  rw [List.getD_eq_getElem?_getD, List.getElem?_eq_getElem h]
  exact a _ (List.getElem_mem h)
theorem d_L_draw (G : Gs mg) (p : Pl K mg "_law_draw" st_L_draw ["_law_cell", "_law_k", "_law_most"])  : Def P w K mg base CX0 1 "_law_draw" ["_law_cell", "_law_k", "_law_most"] (sp_L_draw K) := by
  refine p.ok (k := 0) sc_L_draw (fun vs H Q E h => ?_) (fun f cdv A outer s H vs Q E hr h => ?_)
  · obtain ⟨c, k, m, rfl, _⟩ := h
    rfl
  · obtain ⟨c, k, m, rfl, hm, q⟩ := h
    refine ⟨_, (pss_cons (ps_set (i := 3) sc_L_draw.nd rfl (.inl rfl) (pe_tup (pa_cons pe_int (pa_cons pe_int (pa_cons pe_int (pa_cons pe_int (pa_cons pe_int (pa_cons pe_int (pa_cons pe_int (pa_cons pe_int (pa_cons pe_int (pa_cons pe_int (pa_cons pe_int (pa_cons pe_int (pa_cons pe_int (pa_cons pe_int (pa_cons pe_int (pa_cons pe_int pa_nil))))))))))))))))))
      (pss_one (ps_ret (pe_op op_mod (pe_op op_mod (pe_op op_add (pe_op op_mul (pv 0) pe_int) (pe_op op_mul (pv 1) pe_int)) (pe_ix ix_tup (pv 3) (pe_op op_mod (pv 1) pe_int) (fun _ _ => rfl))) (pv 2))))), ?_⟩
    refine q_asgU (xs := primes.map V.int) (eu_tup (ea_cons ev_c (ea_cons ev_c (ea_cons ev_c (ea_cons ev_c (ea_cons ev_c (ea_cons ev_c (ea_cons ev_c (ea_cons ev_c (ea_cons ev_c (ea_cons ev_c (ea_cons ev_c (ea_cons ev_c (ea_cons ev_c (ea_cons ev_c (ea_cons ev_c (ea_cons ev_c ea_nil)))))))))))))))) (by decide)) fun p H1 np e1 hp => ?_
    refine s_ret (ev_op (ev_op (ev_op (ev_op (ev_var rfl) ev_c (rv_I (.inr ⟨by decide, by decide⟩))) (ev_op (ev_var rfl) ev_c (rv_I (.inr ⟨by decide, by decide⟩))) rv_I0) (ev_op (ev_var rfl) (ev_op (ev_var rfl) ev_c (rv_I (by decide))) (rv_ixT (st_of hp) (prime_at k))) (rv_I (prime_pos k))) (ev_var rfl) (rv_I hm)) fun H2 e2 => q H2 (e1.trans e2)
/-! ### _law_number -/
abbrev st_L_number : Stmt := topS 20
theorem sc_L_number : FnScope ["_law_cell", "_law_k", "_law_limit"] ["_law_cell", "_law_k", "_law_limit"] (defScope st_L_number) := ⟨rfl, rfl, rfl, by decide +kernel, rfl, by decide +kernel, by decide +kernel⟩

def sp_L_number (K : PySem.W.Frag) : Sp := fun vs H Q _ => ∃ (c : Int) (k : Nat) (m : Int), vs = [.int c, .int (k : Int), .int m] ∧ Fit c ∧ k ≤ 1000 ∧ 0 < m ∧ RetV (.int (numF c k m)) H Q
theorem ev_number {K : PySem.W.Frag} {H : Hp} {c : Int} {k : Nat} {m : Int} (hc : Fit c) (hk : k ≤ 1000) (h : 0 < m) : SpV (sp_L_number K) [.int c, .int (k : Int), .int m] H (.int (numF c k m)) :=
  spv fun H1 e Q q E => ⟨c, k, m, rfl, hc, hk, h, q⟩
theorem div_at (k : Nat) : atI (divs.map V.int) ((k : Int) % 5) = some (.int (divs.getD (k % 5) 1)) := by
  have e : ((k : Int) % 5) = ((k % 5 : Nat) : Int) := by omega
  rw [e]
  have h : k % 5 < divs.length := by show k % 5 < 5; omega
  refine atI_nat ?_
  rw [List.getElem?_map, List.getElem?_eq_getElem h, List.getD_eq_getElem?_getD, List.getElem?_eq_getElem h]
  rfl
theorem div_pos (k : Nat) : CDiv 0 (divs.getD (k % 5) 1) := by
  have h : k % 5 < divs.length := by show k % 5 < 5; omega
  have a : ∀ x ∈ divs, (0 : Int) < x ∧ x < 1073741824 := by decide
  rw [List.getD_eq_getElem?_getD, List.getElem?_eq_getElem h]
  exact a _ (List.getElem_mem h)
theorem num_mul {c : Int} {k : Nat} (hc : Fit c) (hk : k ≤ 1000) : IntMulOk (c + 977 * (k : Int)) (c + 31 * (k : Int) + 5) := by
  obtain ⟨m, h1, h2, h3⟩ := hc
  have a1 := fit_bits (m := m + 1) (by omega) (fit_add h3 (fit_small (d := 977 * (k : Int)) h1 (by omega)))
  have a2 := fit_add h3 (fit_small (d := 31 * (k : Int)) h1 (by omega))
  have a3 := fit_bits (m := m + 1 + 1) (by omega) (fit_add a2 (fit_small (d := 5) (by omega) (by decide)))
  exact mulOk_of a1 a3 (by omega)
theorem d_L_number (G : Gs mg) (p : Pl K mg "_law_number" st_L_number ["_law_cell", "_law_k", "_law_limit"]) (D_L_draw : Def P w K mg base CX0 1 "_law_draw" ["_law_cell", "_law_k", "_law_most"] (sp_L_draw K)) : Def P w K mg base CX0 2 "_law_number" ["_law_cell", "_law_k", "_law_limit"] (sp_L_number K) := by
  refine p.ok (k := 1) sc_L_number (fun vs H Q E h => ?_) (fun f cdv A outer s H vs Q E hr h => ?_)
  · obtain ⟨c, k, m, rfl, _⟩ := h
    rfl
  · obtain ⟨c, k, m, rfl, hc, hk, hm, q⟩ := h
    refine ⟨_, (pss_cons (ps_if (pt_cmpR op_ge (pv 0) (pe_op op_pow pe_int pe_int) (nomark _))
      (pss_one (ps_ret (pe_op op_mod (pe_op op_fdiv (pe_op op_sub (pv 0) (pe_op op_pow pe_int pe_int)) (pe_ix ix_tup (pe_tup (pa_cons pe_int (pa_cons pe_int (pa_cons pe_int (pa_cons pe_int (pa_cons pe_int pa_nil)))))) (pe_op op_mod (pv 1) pe_int) (fun _ _ => rfl))) (pv 2))))
      pss_nil)
      (pss_one (ps_ret (pe_op op_mod (pe_fn D_L_draw (by decide) hr (by rfl) pass0 (pa_cons (pe_op op_mulK (pe_op op_add (pv 0) (pe_op op_mul pe_int (pv 1))) (pe_op op_add (pe_op op_add (pv 0) (pe_op op_mul pe_int (pv 1))) pe_int)) (pa_cons (pe_op op_add (pe_op op_mod (pv 1) pe_int) pe_int) (pa_cons pe_int pa_nil)))) (pv 2))))), ?_⟩
    refine q_when (b := decide ((10 : Int) ^ 18 ≤ c)) (et_test (ev_op (ev_var rfl) (ev_op ev_c ev_c (rv_I ⟨by decide, by decide, by decide⟩)) rv_I0)) (fun hb H1 e1 => ?_) (fun hb H1 e1 => ?_)
    · have hb' := of_decide_eq_true hb
      have e : numF c k m = (c - 10 ^ 18) / (divs.getD (k % 5) 1) % m := by unfold numF; rw [if_pos hb']
      rw [e] at q
      refine s_ret (ev_op (ev_op (ev_op (ev_var rfl) (ev_op ev_c ev_c (rv_I ⟨by decide, by decide, by decide⟩)) rv_I0) (ev_menu (xs := divs.map V.int) (eu_tup (ea_cons ev_c (ea_cons ev_c (ea_cons ev_c (ea_cons ev_c (ea_cons ev_c ea_nil))))) (by decide)) (ev_op (ev_var rfl) ev_c (rv_I (by decide))) (div_at k)) (rv_I (div_pos k))) (ev_var rfl) (rv_I hm)) fun H2 e2 => q H2 (e1.trans e2)
    · have hb' := of_decide_eq_false hb
      have e : numF c k m = drawF ((c + 977 * (k : Int)) * (c + 31 * (k : Int) + 5)) (k % 9 + 1) 999983 % m := by unfold numF; rw [if_neg hb']
      rw [e] at q
      refine s_ret (ev_op (ev_call (ea_cons (ev_op (ev_op (ev_var rfl) (ev_op ev_c (ev_var rfl) (rv_I (.inl ⟨by decide, by decide⟩))) rv_I0) (ev_op (ev_op (ev_var rfl) (ev_op ev_c (ev_var rfl) (rv_I (.inl ⟨by decide, by decide⟩))) rv_I0) ev_c rv_I0) (rv_I (num_mul hc hk))) (ea_cons (ev_is (w := .int ((k % 9 + 1 : Nat) : Int)) (ev_op (ev_op (ev_var rfl) ev_c (rv_I (by decide))) ev_c rv_I0) (by congr 1)) (ea_cons ev_c ea_nil))) (ev_draw (by decide))) (ev_var rfl) (rv_I hm)) fun H2 e2 => q H2 (e1.trans e2)
/-! ### _law_rows -/
abbrev st_L_rows : Stmt := topS 21
theorem sc_L_rows : FnScope ["_law_length", "_law_found", "_law_turn", "_law_longer", "_law_row", "_law_number_here"] ["_law_length"] (defScope st_L_rows) := ⟨rfl, rfl, rfl, by decide +kernel, rfl, by decide +kernel, by decide +kernel⟩

def sp_L_rows (K : PySem.W.Frag) : Sp := fun vs H Q _ => ∃ (n : Nat), vs = [.int (n : Int)] ∧ n ≤ 6 ∧ RetD K (dRows (rowsF n)) H Q
theorem ed_rows {K : PySem.W.Frag} {H : Hp} {n : Nat} (hn : n ≤ 6) : SpD K (sp_L_rows K) [.int (n : Int)] H (dRows (rowsF n)) := fun H1 e Q q E => ⟨n, rfl, hn, q⟩
theorem rows_few {n : Nat} (h : n ≤ 6) : (rowsF n).length ≤ 76 := by
  rw [rows_gen]
  have h1 := genR_len n []
  have h2 := (ways_inv n).1
  have h3 : (inv2 n).1 ≤ 76 := by
    match n, h with
    | 0, _ => decide
    | 1, _ => decide
    | 2, _ => decide
    | 3, _ => decide
    | 4, _ => decide
    | 5, _ => decide
    | 6, _ => decide
    | n + 7, h => omega
  omega
theorem rows_ok {n : Nat} {r : List Int} (h : r ∈ rowsF n) : Good r ∧ r.length = n := by rw [rows_gen] at h; exact gen_ok h
theorem nextR_len (r : List Int) : (nextR r).length ≤ r.length + 1 := by
  unfold nextR
  rw [List.length_map]
  have := List.length_filter_le (condR r) (List.range (r.length + 1))
  rw [List.length_range] at this
  exact this
theorem dec_nat (i j : Nat) : decide (V.int (i : Int) = V.int (j : Int)) = decide (i = j) := by
  rw [dec_int]
  by_cases e : i = j
  · subst e; simp
  · rw [decide_eq_false e, beq_eq_false_iff_ne]; omega
theorem d_L_rows (G : Gs mg) (p : Pl K mg "_law_rows" st_L_rows ["_law_length"])  : Def P w K mg base CX0 1 "_law_rows" ["_law_length"] (sp_L_rows K) := by
  refine p.ok (k := 0) sc_L_rows (fun vs H Q E h => ?_) (fun f cdv A outer s H vs Q E hr h => ?_)
  · obtain ⟨n, rfl, _⟩ := h
    rfl
  · obtain ⟨n, rfl, hn, q⟩ := h
    refine ⟨_, (pss_cons (ps_set (i := 1) sc_L_rows.nd rfl (.inl rfl) (pe_lst (pa_cons (pe_lst pa_nil) pa_nil)))
      (pss_cons (ps_for PassesOwn.never rfl (pi_range1 (by rfl) G.n_range (pa_cons (pv 0) pa_nil)) (pg_name (i := 2) sc_L_rows.nd rfl (.inl rfl))
      (pss_cons (ps_set (i := 3) sc_L_rows.nd rfl (.inl rfl) (pe_lst pa_nil))
      (pss_cons (ps_for PassesOwn.never rfl (pi_list (pv 1)) (pg_name (i := 4) sc_L_rows.nd rfl (.inl rfl))
      (pss_one (ps_for PassesOwn.never rfl (pi_range1 (by rfl) G.n_range (pa_cons (pe_op op_add (pe_callB call_len_seq (by rfl) G.n_len (by decide +kernel) (pa_cons (pv 4) pa_nil)) pe_int) pa_nil)) (pg_name (i := 5) sc_L_rows.nd rfl (.inl rfl))
      (pss_one (ps_if (PW.pt (pw_or (pt_cmpR op_eq (pv 5) pe_int (nomark _)) (pw_or1 (pt_cmpR op_gt (pe_bm PySem.F.plainAttrs_list PySem.F.slot_list_count PySem.F.type_list_count mt_lcount (pv 4) (pa_cons (pe_op op_sub (pv 5) pe_int) pa_nil)) (pe_bm PySem.F.plainAttrs_list PySem.F.slot_list_count PySem.F.type_list_count mt_lcount (pv 4) (pa_cons (pv 5) pa_nil)) (nomark _)))))
      (pss_one (ps_expr (pe_bm PySem.F.plainAttrs_list PySem.F.slot_list_append PySem.F.type_list_append mt_append (pv 3) (pa_cons (pe_op op_catS (pv 4) (pe_lst (pa_cons (pv 5) pa_nil))) pa_nil))))
      pss_nil)))))
      (pss_one (ps_set (i := 1) sc_L_rows.nd rfl (.inl rfl) (pv 3))))))
      (pss_one (ps_ret (pv 1))))), ?_⟩
    refine q_asgD (K := K) (ds := dRows [[]]) (edn_lst (eda_cons (ed_L (ns := []) (el_lst ea_nil (by decide))) eda_nil) (by decide)) fun f vs H1 nf e1 hf hd => ?_
    refine q_forR1 (n := (n : Int)) (ea_cons (ev_var rfl) ea_nil) ⟨by omega, by omega⟩ (fun i σ' H' => ∃ f vs y2 y3 y4 y5, σ' = [some (.int (n : Int)), some (.ref f), y2, y3, y4, y5] ∧ Ex H H' ∧ H f = none ∧ H' f = some (.lst vs) ∧ DpAll K H' vs (dRows (rowsF i)))
      (fun H2 e2 => ⟨f, vs, _, _, _, _, rfl, e1.trans e2, nf, e2 _ _ hf, dpA_mono e2 hd⟩) (fun i σ' H' hi hP => ?_) (fun σ' H' hP => ?_)
    · obtain ⟨f, vs, y2, y3, y4, y5, rfl, eH, nf, hf, hd⟩ := hP
      have hi6 : i < 6 := by omega
      refine q_asgL (xs := []) (el_lst ea_nil (by decide)) fun l H2 nl e2 hl => ?_
      have hvl : vs.length = (rowsF i).length := by rw [dpA_len hd, dRows_len]
      refine q_forLn (a := f) (xs := vs) (ev_var rfl) (sq_of (e2 _ _ hf)) (fun j σ'' H'' => ∃ z4 z5 ws, σ'' = [some (.int (n : Int)), some (.ref f), some (.int (i : Int)), some (.ref l), z4, z5] ∧ Ex H' H'' ∧ H'' l = some (.lst ws) ∧ DpAll K (del H'' l) ws (dRows (((rowsF i).take j).flatMap nextR)))
        (fun H3 e3 => ⟨_, _, [], rfl, e2.trans e3, e3 _ _ hl, .nil⟩) (fun j σ'' H'' _ hP => by obtain ⟨_, _, _, _, e, _⟩ := hP; exact sq_of (e _ _ hf)) (fun j x σ'' H'' hj hP => ?_) (fun σ'' H'' hP => ?_)
      · obtain ⟨z4, z5, ws, rfl, eQ, hl', hw⟩ := hP
        obtain ⟨d, hd1, hd2⟩ := dpA_at hd hj
        obtain ⟨r, hr1, rfl⟩ := dRows_get hd1
        obtain ⟨c, rfl, hr2⟩ := dp_inv hd2
        have hrl := (rows_ok (List.mem_of_getElem? hr1)).2
        have hwl : ws.length ≤ 532 := by
          rw [dpA_len hw, dRows_len]
          have h1 : (((rowsF i).take j).flatMap nextR).length ≤ 7 * ((rowsF i).take j).length := flat_len fun r hr => by
            have h2 := nextR_len r
            have h3 := (rows_ok (List.mem_of_mem_take hr)).2
            omega
          have h2 : ((rowsF i).take j).length ≤ 76 := by
            rw [List.length_take]
            have := rows_few (n := i) (by omega)
            omega
          exact Nat.le_trans h1 (Nat.mul_le_mul_left 7 h2)
        refine s_forR1 (n := ((r.length + 1 : Nat) : Int)) (ea_cons (ev_is (ev_op (ev_len (ev_var rfl) (ex_l eQ hr2)) ev_c rv_I0) (by rw [List.length_map]; rfl)) ea_nil) ⟨by omega, by omega⟩
          (fun k σ3 H3 => ∃ z5 us, σ3 = [some (.int (n : Int)), some (.ref f), some (.int (i : Int)), some (.ref l), some (.ref c), z5] ∧ Ex H' H3 ∧ H3 l = some (.lst us) ∧ DpAll K (del H3 l) us (dRows (((rowsF i).take j).flatMap nextR ++ ((List.range k).filter (condR r)).map fun k : Nat => r ++ [(k : Int)])))
          (fun H3 e3 => ⟨_, ws, rfl, eQ.trans e3, e3 _ _ hl', by
            rw [List.range_zero, List.filter_nil, List.map_nil, List.append_nil]
            exact dpA_mono (del_mono e3) hw⟩) (fun k σ3 H3 hk hP => ?_) (fun σ3 H3 hP => ?_)
        · obtain ⟨z5, us, rfl, eR, hu, hus⟩ := hP
          have hr3 := ex_l eR hr2
          have hul : us.length ≤ 600 := by
            rw [dpA_len hus, dRows_len, List.length_append, List.length_map]
            have h1 := List.length_filter_le (condR r) (List.range k)
            rw [List.length_range] at h1
            have h2 := dpA_len hw
            rw [dRows_len] at h2
            omega
          refine s_when (b := condR r k) (et_is (et_or (a := decide (k = 0)) (b := decide (r.count ((k : Int) - 1) > r.count (k : Int))) (et_test (ev_is (ev_op (ev_var rfl) ev_c (rv_eq rfl)) (by rw [← dec_nat k 0]; rfl))) fun _ => et_test (ev_is (ev_op (ev_count (ev_var rfl) hr3 (ev_op (ev_var rfl) ev_c rv_I0)) (ev_count (ev_var rfl) hr3 (ev_var rfl)) rv_I0) (by congr 1; simp))) rfl) (fun hb H4 e4 => ?_) (fun hb H4 e4 => ?_)
          · refine s_appL (ys := (r ++ [(k : Int)]).map V.int) (e4 _ _ hu) (ev_var rfl) (el_is (el_catSN (ev_var rfl) (ex_l e4 hr3) (el_lst (ea_cons (ev_var rfl) ea_nil) (show 1 ≤ 100000 by decide)) (by rw [List.length_map]; show r.length + 1 ≤ 100000; omega)) (by rw [List.map_append]; rfl)) (by omega) fun p H5 np e5 hp => ⟨_, us ++ [.ref p], rfl, Ex.mut (eR.trans (e4.trans e5)) nl, upd_same, ?_⟩
            rw [del_upd, List.range_succ, List.filter_append, List.map_append, List.filter_cons, if_pos hb]
            have npl : p ≠ l := (ne_of_none (e4 _ _ hu) np).symm
            rw [← List.append_assoc]
            exact dpA_rows_app (dpA_mono (del_mono (e4.trans e5)) hus) (.cons (dp_list (sq_of (by rw [del_ne npl]; exact hp))) .nil)
          · refine ⟨_, us, rfl, eR.trans e4, e4 _ _ hu, ?_⟩
            rw [List.range_succ, List.filter_append, List.filter_cons, if_neg (by rw [hb]; decide), List.filter_nil, List.append_nil]
            exact dpA_mono (del_mono e4) hus
        · obtain ⟨z5, us, rfl, eR, hu, hus⟩ := hP
          refine ⟨_, _, us, rfl, eR, hu, ?_⟩
          have et : (rowsF i).take (j + 1) = (rowsF i).take j ++ [r] := by rw [List.take_add_one, hr1]; rfl
          rw [et, List.flatMap_append, List.flatMap_singleton]
          rw [Int.toNat_natCast] at hus
          exact hus
      · obtain ⟨z4, z5, ws, rfl, eQ, hl', hw⟩ := hP
        rw [hvl, List.take_length] at hw
        exact s_asg (v := .ref l) (ev_var rfl) fun H3 e3 => ⟨l, ws, _, _, _, _, rfl, eH.trans (eQ.trans e3), fresh_back eH nl, e3 _ _ hl', dpA_mono ((del_ex _ _).trans e3) hw⟩
    · obtain ⟨f, vs, y2, y3, y4, y5, rfl, eH, nf, hf, hd⟩ := hP
      rw [Int.toNat_natCast] at hd
      exact s_ret (ev_var rfl) fun H3 e3 => q f vs H3 nf (eH.trans e3) (e3 _ _ hf) (dpA_mono e3 hd)
/-! ### _law_whole -/
abbrev st_L_whole : Stmt := topS 22
theorem sc_L_whole : FnScope ["_law_found"] ["_law_found"] (defScope st_L_whole) := ⟨rfl, rfl, rfl, by decide +kernel, rfl, by decide +kernel, by decide +kernel⟩

/-- any thing whose type is known -/
def sp_L_whole (K : PySem.W.Frag) : Sp := fun vs H Q _ => ∃ (x : V) (m : String) (b1 b2 : Bool), vs = [x] ∧ (∀ H1, Ex H H1 → TyX K H1 x (.type m)) ∧ kitB m "int" = some b1 ∧ kitB m "bool" = some b2 ∧ RetV (.bl (b1 && !b2)) H Q
theorem ev_whole {K : PySem.W.Frag} {H : Hp} {i : Int} : SpV (sp_L_whole K) [.int i] H (.bl true) :=
  spv fun H1 e Q q E => ⟨.int i, "int", true, false, rfl, fun H2 _ => tyx_int i, by decide +kernel, by decide +kernel, q⟩
theorem d_L_whole (G : Gs mg) (p : Pl K mg "_law_whole" st_L_whole ["_law_found"])  : Def P w K mg base CX0 1 "_law_whole" ["_law_found"] (sp_L_whole K) := by
  refine p.ok (k := 0) sc_L_whole (fun vs H Q E h => ?_) (fun f cdv A outer s H vs Q E hr h => ?_)
  · obtain ⟨x, m, b1, b2, rfl, _⟩ := h
    rfl
  · obtain ⟨x, m, b1, b2, rfl, ty, k1, k2, q⟩ := h
    refine ⟨_, (pss_one (ps_ret (pe_and (pe_callB call_isi (by rfl) G.n_isinstance (by decide +kernel) (pa_cons (pv 0) (pa_cons (pe_bltn (v := .ty "int") (by rfl) G.n_int (by decide +kernel) rfl) pa_nil))) (pe_one (pe_not (pe_callB call_isi (by rfl) G.n_isinstance (by decide +kernel) (pa_cons (pv 0) (pa_cons (pe_bltn (v := .ty "bool") (by rfl) G.n_bool (by decide +kernel) rfl) pa_nil)))))))), ?_⟩
    exact s_ret (ev_andV (ev_isi (ea_cons (ev_var rfl) (ea_cons ev_c ea_nil)) (fun H1 e => ty H1 e) k1) fun _ => ev_notV (ev_isi (ea_cons (ev_var rfl) (ea_cons ev_c ea_nil)) (fun H1 e => ty H1 e) k2)) fun H2 e2 => q H2 e2
/-! ### _law_is_row -/
abbrev st_L_is_row : Stmt := topS 23
theorem sc_L_is_row : FnScope ["_law_found", "_law_one"] ["_law_found"] (defScope st_L_is_row) := ⟨rfl, rfl, rfl, by decide +kernel, rfl, by decide +kernel, by decide +kernel⟩

def sp_L_is_row (K : PySem.W.Frag) : Sp := fun vs H Q _ => ∃ (a : Addr) (ns : List Int), vs = [.ref a] ∧ SqL K H a (ns.map V.int) ∧ ns.length ≤ 1000 ∧ RetV (.bl true) H Q
theorem ev_is_row {K : PySem.W.Frag} {H : Hp} {a : Addr} {ns : List Int} (h : SqL K H a (ns.map V.int)) (hl : ns.length ≤ 1000) : SpV (sp_L_is_row K) [.ref a] H (.bl true) :=
  spv fun H1 e Q q E => ⟨a, ns, rfl, ex_l e h, hl, q⟩
theorem d_L_is_row (G : Gs mg) (p : Pl K mg "_law_is_row" st_L_is_row ["_law_found"]) (D_L_whole : Def P w K mg base CX0 1 "_law_whole" ["_law_found"] (sp_L_whole K)) : Def P w K mg base CX0 2 "_law_is_row" ["_law_found"] (sp_L_is_row K) := by
  refine p.ok (k := 1) sc_L_is_row (fun vs H Q E h => ?_) (fun f cdv A outer s H vs Q E hr h => ?_)
  · obtain ⟨a, ns, rfl, _⟩ := h
    rfl
  · obtain ⟨a, ns, rfl, hS, hl, q⟩ := h
    refine ⟨_, (pss_one (ps_ret (pe_and (pe_callB call_isi (by rfl) G.n_isinstance (by decide +kernel) (pa_cons (pv 0) (pa_cons (pe_bltn (v := .ty "list") (by rfl) G.n_list (by decide +kernel) rfl) pa_nil))) (pe_one (pe_callB (cr_all rfl) (by rfl) G.n_all (by decide +kernel) (pa_cons (pe_lc (own := [("_law_one", 1)]) (g := (gName 1)) (tt := tYes) (te := (tCall (sp_L_whole K) [] _ (tCons (tVar 1) tNil))) rfl sc_L_is_row.nd (pi_list (pv 0)) (blkOk_by (own := [("_law_one", 1)]) (N := ["_law_found", "_law_one"]) (sc := defScope st_L_is_row) (by decide +kernel)) (fun _ _ _ _ _ => (pg_name (i := 1) sc_L_is_row.nd rfl (.inl rfl))) (fun _ _ _ _ _ => pts_nil) (fun _ _ _ _ _ => (pe_fn D_L_whole (by decide) hr (by rfl) pass0 (pa_cons (pv 1) pa_nil)))) pa_nil)))))), ?_⟩
    refine s_ret (v := .bl true) (ev_is (ev_andV (a := true) (b := true) (ev_isi (ea_cons (ev_var rfl) (ea_cons ev_c ea_nil)) (fun H1 e => tyx_list (ex_l e hS)) (by decide +kernel)) fun _ => ?_) rfl) fun H1 e1 => q H1 e1
    exact ev_allL (ev_var rfl) hS (by rw [List.length_map]; omega) (fun x => rfl) fun i x H1 e hi => by
      obtain ⟨n, _, rfl⟩ := int_at hi
      exact ev_call (ea_cons (ev_var rfl) ea_nil) ev_whole
/-! ### _law_shape -/
abbrev st_L_shape : Stmt := topS 24
theorem sc_L_shape : FnScope ["_law_script", "_law_by", "_law_found", "_law_k", "_law_top"] ["_law_script", "_law_by"] (defScope st_L_shape) := ⟨rfl, rfl, rfl, by decide +kernel, rfl, by decide +kernel, by decide +kernel⟩

def sp_L_shape (K : PySem.W.Frag) : Sp := fun vs H Q _ => ∃ (a : Addr) (ns : List Int) (b : Nat), vs = [.ref a, .int (b : Int)] ∧ SqL K H a (ns.map V.int) ∧ (∀ z ∈ ns, FitS z) ∧ b ≤ 100 ∧ ∀ s, IsShape s → s ≠ [] → s.sum ≤ 20 → RetL (s.map V.int) H Q
theorem d_L_shape (G : Gs mg) (p : Pl K mg "_law_shape" st_L_shape ["_law_script", "_law_by"]) (D_L_number : Def P w K mg base CX0 2 "_law_number" ["_law_cell", "_law_k", "_law_limit"] (sp_L_number K)) (D_L_cell_at : Def P w K mg base CX0 1 "_law_cell_at" ["_law_script", "_law_k"] (sp_L_cell_at K)) : Def P w K mg base CX0 3 "_law_shape" ["_law_script", "_law_by"] (sp_L_shape K) := by
  refine p.ok (k := 2) sc_L_shape (fun vs H Q E h => ?_) (fun f cdv A outer s H vs Q E hr h => ?_)
  · obtain ⟨a, ns, b, rfl, _⟩ := h
    rfl
  · obtain ⟨a, ns, b, rfl, hS, hf, hb, q⟩ := h
    refine ⟨_, (pss_cons (ps_set (i := 2) sc_L_shape.nd rfl (.inl rfl) (pe_lst pa_nil))
      (pss_cons (ps_for PassesOwn.never rfl (pi_range1 (by rfl) G.n_range (pa_cons (pe_op op_add pe_int (pe_fn D_L_number (by decide) hr (by rfl) pass0 (pa_cons (pe_fn D_L_cell_at (by decide) hr (by rfl) pass0 (pa_cons (pv 0) (pa_cons (pv 1) pa_nil))) (pa_cons (pv 1) (pa_cons pe_int pa_nil))))) pa_nil)) (pg_name (i := 3) sc_L_shape.nd rfl (.inl rfl))
      (pss_cons (ps_set (i := 4) sc_L_shape.nd rfl (.inl rfl) (pe_callB (call_min2 rfl) (by rfl) G.n_min (by decide +kernel) (pa_cons (pe_ifExp (pt_cmpR (op_neD hr.units) (pv 2) (pe_lst pa_nil) (nomark _)) (pe_ix ix_list (pv 2) (pe_un un_neg pe_int) (fun _ _ => rfl)) pe_int) (pa_cons (pe_op op_sub pe_int (pe_callB (cr_sum rfl) (by rfl) G.n_sum (by decide +kernel) (pa_cons (pv 2) pa_nil))) pa_nil))))
      (pss_one (ps_if (pt_cmpR op_gt (pv 4) pe_int (nomark _))
      (pss_one (ps_expr (pe_bm PySem.F.plainAttrs_list PySem.F.slot_list_append PySem.F.type_list_append mt_append (pv 2) (pa_cons (pe_op op_add pe_int (pe_fn D_L_number (by decide) hr (by rfl) pass0 (pa_cons (pe_op op_add (pe_fn D_L_cell_at (by decide) hr (by rfl) pass0 (pa_cons (pv 0) (pa_cons (pe_op op_add (pv 1) (pv 3)) pa_nil))) (pe_op op_mul pe_int (pv 3))) (pa_cons (pe_op op_add (pe_op op_add (pv 1) (pv 3)) pe_int) (pa_cons (pv 4) pa_nil))))) pa_nil))))
      pss_nil))))
      (pss_one (ps_ret (pv 2))))), ?_⟩
    have hc : ∀ k : Nat, FitS (cellAt ns k) := fun k => fit_cell (by decide) hf k
    refine q_asgL (xs := []) (el_lst ea_nil (by decide)) fun l H1 nl e1 hl => ?_
    have hn := numF_lt (cellAt ns b) b (lim := 6) (by omega)
    have hn0 := numF_nn (cellAt ns b) b (lim := 6) (by omega)
    refine q_forR1 (n := 1 + numF (cellAt ns b) b 6) (ea_cons (ev_op ev_c (ev_call (ea_cons (ev_call (ea_cons (ev_var rfl) (ea_cons (ev_var rfl) ea_nil)) (ev_cell_at (ex_l e1 hS))) (ea_cons (ev_var rfl) (ea_cons ev_c ea_nil))) (ev_number ((hc b).mono (by decide)) (by omega) (by omega))) rv_I0) ea_nil) ⟨by omega, by omega⟩
      (fun i σ' H' => ∃ y3 y4 s, σ' = [some (.ref a), some (.int (b : Int)), some (.ref l), y3, y4] ∧ Ex H H' ∧ H' l = some (.lst (s.map V.int)) ∧ IsShape s ∧ s.sum ≤ 20 ∧ (0 < i → s ≠ []))
      (fun H2 e2 => ⟨_, _, [], rfl, e1.trans e2, e2 _ _ hl, isShape_nil, by decide, fun h => absurd h (Nat.lt_irrefl _)⟩) (fun i σ' H' hi hP => ?_) (fun σ' H' hP => ?_)
    · obtain ⟨y3, y4, s, rfl, eH, hl', hs, hsum, hne⟩ := hP
      have hlen := shape_len hs.2
      obtain ⟨u, hu, hu0, huy⟩ : ∃ u : Int, Ev (tIf (tTest (tOp (rNeD K) (tVar 2) (tLst tNil))) (tOp (rIxL K) (tVar 2) (tUn (rU fun i => .int (-i)) (tC (.int 1)))) (tC (.int 9))) [some (.ref a), some (.int (b : Int)), some (.ref l), some (.int (i : Int)), y4] H' (.int u) ∧ 1 ≤ u ∧ ∀ y ∈ s, u ≤ y := by
        by_cases h0 : s = []
        · subst h0
          exact ⟨9, ev_if (b := false) (et_test (ev_is (ev_neD (K := K) (ed_ev (ev_var rfl) (dp_list (ns := []) (sq_of hl'))) (ed_L (ns := []) (el_lst ea_nil (by decide))) (shaped_ints _) (shaped_ints _)) (by rw [eqv_list]; rfl))) (fun hb => nomatch hb) (fun _ => ev_c), by decide, fun y hy => nomatch hy⟩
        · obtain ⟨r, x, rfl⟩ : ∃ r x, s = r ++ [x] := ⟨s.dropLast, s.getLast h0, (List.dropLast_concat_getLast h0).symm⟩
          refine ⟨x, ev_if (b := true) (et_test (ev_is (ev_neD (K := K) (ed_ev (ev_var rfl) (dp_list (sq_of hl'))) (ed_L (ns := []) (el_lst ea_nil (by decide))) (shaped_ints _) (shaped_ints _)) (by rw [eqv_list, decide_eq_false h0]; rfl))) (fun _ => ev_op (ev_var rfl) (ev_un ev_c ru_neg) (rv_ixL (sq_of hl') ?_)) (fun hb => nomatch hb), hs.2 x (by simp), shape_last hs⟩
          rw [List.map_append]
          exact atI_last _ _
      refine q_asg (v := .int (if 20 - s.sum < u then 20 - s.sum else u)) (ev_min2 hu (ev_op ev_c (ev_sum (ev_var rfl) (sq_of hl')) rv_I0)) fun H2 e2 => ?_
      generalize ht : (if 20 - s.sum < u then 20 - s.sum else u) = t
      have ht1 : t ≤ u ∧ t ≤ 20 - s.sum := by rw [← ht]; split <;> omega
      refine s_when (b := decide (t > 0)) (et_test (ev_op (ev_var rfl) ev_c rv_I0)) (fun hb H3 e3 => ?_) (fun hb H3 e3 => ?_)
      · have hb' := of_decide_eq_true hb
        have hfit : Fit (cellAt ns (b + i) + 31 * (i : Int)) := (FitN.add (hc (b + i)) (by omega)).mono (by decide)
        have hv0 := numF_nn (cellAt ns (b + i) + 31 * (i : Int)) (b + i + 2) (lim := t) hb'
        have hv1 := numF_lt (cellAt ns (b + i) + 31 * (i : Int)) (b + i + 2) (lim := t) hb'
        refine s_app ((e2.trans e3) _ _ hl') (ev_var rfl) (v := .int (1 + numF (cellAt ns (b + i) + 31 * (i : Int)) (b + i + 2) t)) (ev_op ev_c (ev_call (ea_cons (ev_op (ev_call (ea_cons (ev_var rfl) (ea_cons (ev_is (w := .int ((b + i : Nat) : Int)) (ev_op (ev_var rfl) (ev_var rfl) rv_I0) (by congr 1)) ea_nil)) (ev_cell_at (ex_l (eH.trans (e2.trans e3)) hS))) (ev_op ev_c (ev_var rfl) (rv_I (.inl ⟨by decide, by decide⟩))) rv_I0) (ea_cons (ev_is (w := .int ((b + i + 2 : Nat) : Int)) (ev_op (ev_op (ev_var rfl) (ev_var rfl) rv_I0) ev_c rv_I0) (by congr 1)) (ea_cons (ev_var rfl) ea_nil))) (ev_number hfit (by omega) hb')) rv_I0) (by rw [List.length_map]; omega) fun H4 e4 => ⟨_, _, s ++ [1 + numF (cellAt ns (b + i) + 31 * (i : Int)) (b + i + 2) t], rfl, Ex.mut (eH.trans (e2.trans (e3.trans e4))) nl, by rw [upd_same, List.map_append]; rfl, shape_snoc hs (by omega) (fun y hy => by have := huy y hy; omega), by rw [List.sum_append]; show _ + (_ + 0) ≤ _; omega, fun _ h => by simp at h⟩
      · have hb' := of_decide_eq_false hb
        refine ⟨_, _, s, rfl, eH.trans (e2.trans e3), (e2.trans e3) _ _ hl', hs, hsum, fun _ h => ?_⟩
        subst h
        have : t = u ∨ t = 20 := by rw [← ht]; split; exact .inr rfl; exact .inl rfl
        omega
    · obtain ⟨y3, y4, s, rfl, eH, hl', hs, hsum, hne⟩ := hP
      exact s_ret (ev_var rfl) fun H2 e2 => q s hs (hne (by omega)) hsum l H2 nl (eH.trans e2) (e2 _ _ hl')
/-! ### _law_turned -/
abbrev st_L_turned : Stmt := topS 25
theorem sc_L_turned : FnScope ["_law_shape_here", "_law_at", "_law_one"] ["_law_shape_here"] (defScope st_L_turned) := ⟨rfl, rfl, rfl, by decide +kernel, rfl, by decide +kernel, by decide +kernel⟩

def sp_L_turned (K : PySem.W.Frag) : Sp := fun vs H Q _ => ∃ (a : Addr) (ns : List Int), vs = [.ref a] ∧ SqL K H a (ns.map V.int) ∧ IsShape ns ∧ ns ≠ [] ∧ ns.sum ≤ 20 ∧ RetL ((turnedF ns).map V.int) H Q
theorem el_turned {K : PySem.W.Frag} {H : Hp} {a : Addr} {ns : List Int} (h : SqL K H a (ns.map V.int)) (hs : IsShape ns) (h0 : ns ≠ []) (hl : ns.sum ≤ 20) : SpL (sp_L_turned K) [.ref a] H ((turnedF ns).map V.int) :=
  spl fun H1 e Q q E => ⟨a, ns, rfl, ex_l e h, hs, h0, hl, q⟩
theorem d_L_turned (G : Gs mg) (p : Pl K mg "_law_turned" st_L_turned ["_law_shape_here"])  : Def P w K mg base CX0 1 "_law_turned" ["_law_shape_here"] (sp_L_turned K) := by
  refine p.ok (k := 0) sc_L_turned (fun vs H Q E h => ?_) (fun f cdv A outer s H vs Q E hr h => ?_)
  · obtain ⟨a, ns, rfl, _⟩ := h
    rfl
  · obtain ⟨a, ns, rfl, hS, hs, h0, hl, q⟩ := h
    refine ⟨_, (pss_one (ps_ret (pe_lc (own := [("_law_at", 1)]) (g := (gName 1)) (tt := tYes) (te := (tCB (rLenS K) (tCons (tLc (iList K (tVar 0)) (gName 2) (tTest (tOp _ (tVar 2) (tVar 1))) (tVar 2) [2]) tNil))) rfl sc_L_turned.nd (pi_range1 (by rfl) G.n_range (pa_cons (pe_ifExp (pt_cmpR (op_neD hr.units) (pv 0) (pe_lst pa_nil) (nomark _)) (pe_ix ix_list (pv 0) pe_int (fun _ _ => rfl)) pe_int) pa_nil)) (blkOk_by (own := [("_law_at", 1)]) (N := ["_law_shape_here", "_law_at", "_law_one"]) (sc := defScope st_L_turned) (by decide +kernel)) (fun _ _ _ _ _ => (pg_name (i := 1) sc_L_turned.nd rfl (.inr rfl))) (fun _ _ _ _ _ => pts_nil) (fun _ _ _ _ _ => (pe_callB call_len_seq (by rfl) G.n_len (by decide +kernel) (pa_cons (pe_lc (own := [("_law_one", 2)]) (g := (gName 2)) (tt := (tTest (tOp _ (tVar 2) (tVar 1)))) (te := (tVar 2)) rfl sc_L_turned.nd (pi_list (pv 0)) (blkOk_by (own := [("_law_one", 2)]) (by rfl)) (fun _ _ _ _ _ => (pg_name (i := 2) sc_L_turned.nd rfl (.inl rfl))) (fun _ _ _ _ _ => (pts_one (pt_cmpR op_gt (pv 2) (pv 1) (nomark _)))) (fun _ _ _ _ _ => (pv 2))) pa_nil)))))), ?_⟩
    have hlen : ns.length ≤ 20 := by have := shape_len hs.2; omega
    obtain ⟨n0, r0, rfl⟩ : ∃ n0 r0, ns = n0 :: r0 := by cases ns with | nil => exact absurd rfl h0 | cons x r => exact ⟨x, r, rfl⟩
    have hn0 := hs.head.1
    have hn20 : n0 ≤ 20 := by have := mem_sum_le hs.2 (List.mem_cons_self (a := n0) (l := r0)); omega
    refine s_retL (xs := (turnedF (n0 :: r0)).map V.int) (el_is (el_lcR1 (n := n0) (fun _ => true) (fun p => .int (cntF (n0 :: r0) (p : Int))) (ea_cons (ev_if (b := true) (et_test (ev_is (ev_neD (K := K) (ed_ev (ev_var rfl) (dp_list hS)) (ed_L (ns := []) (el_lst ea_nil (by decide))) (shaped_ints _) (shaped_ints _)) (by rw [eqv_list]; rfl))) (fun _ => ev_op (ev_var rfl) (ev_is (w := .int ((0 : Nat) : Int)) ev_c rfl) (rv_ixL (v := .int n0) hS (at_ints (ns := n0 :: r0) (i := 0) (Nat.zero_lt_succ _)))) fun hb => nomatch hb) ea_nil) ⟨by omega, by omega⟩ (fun x => rfl) (fun _ _ _ _ => et_yes) fun p H1 e1 hp _ => ?_) ?_) fun p H1 n e1 a => q p H1 n e1 a
    · refine ev_is (ev_lenN (el_is (el_lcL (xs := (n0 :: r0).map V.int) (fun k => decide ((p : Int) < (n0 :: r0).getD k 0)) (fun k => .int ((n0 :: r0).getD k 0)) (ev_var rfl) (ex_l e1 hS) (by rw [List.length_map]; omega) (fun x => rfl) (fun k x H4 e4 hk => ?_) fun k x H4 e4 hk _ => ?_) (given_over (n0 :: r0) 0 p))) ?_
      · obtain ⟨m, hm, rfl⟩ := int_at hk
        have : (n0 :: r0).getD k 0 = m := by rw [List.getD_eq_getElem?_getD, hm]; rfl
        rw [this]
        exact et_test (ev_op (ev_var rfl) (ev_var rfl) rv_I0)
      · obtain ⟨m, hm, rfl⟩ := int_at hk
        have : (n0 :: r0).getD k 0 = m := by rw [List.getD_eq_getElem?_getD, hm]; rfl
        rw [this]
        exact ev_var rfl
      · unfold cntF; rw [List.length_map]; rfl
    · rw [given_all]
      unfold turnedF
      rw [List.map_map]
      rfl
/-! ### _law_less -/
abbrev st_L_less : Stmt := topS 26
theorem sc_L_less : FnScope ["_law_shape_here", "_law_found", "_law_at", "_law_often", "_law_one"] ["_law_shape_here"] (defScope st_L_less) := ⟨rfl, rfl, rfl, by decide +kernel, rfl, by decide +kernel, by decide +kernel⟩

def sp_L_less (K : PySem.W.Frag) : Sp := fun vs H Q _ => ∃ (a : Addr) (ns : List Int), vs = [.ref a] ∧ SqL K H a (ns.map V.int) ∧ IsShape ns ∧ ns.sum ≤ 20 ∧ RetD K (dRows (dnF ns)) H Q
theorem ed_less {K : PySem.W.Frag} {H : Hp} {a : Addr} {ns : List Int} (h : SqL K H a (ns.map V.int)) (hs : IsShape ns) (hl : ns.sum ≤ 20) : SpD K (sp_L_less K) [.ref a] H (dRows (dnF ns)) := fun H1 e Q q E => ⟨a, ns, rfl, ex_l e h, hs, hl, q⟩
theorem d_L_less (G : Gs mg) (p : Pl K mg "_law_less" st_L_less ["_law_shape_here"])  : Def P w K mg base CX0 1 "_law_less" ["_law_shape_here"] (sp_L_less K) := by
  refine p.ok (k := 0) sc_L_less (fun vs H Q E h => ?_) (fun f cdv A outer s H vs Q E hr h => ?_)
  · obtain ⟨a, ns, rfl, _⟩ := h
    rfl
  · obtain ⟨a, ns, rfl, hS, hs, hl, q⟩ := h
    refine ⟨_, (pss_cons (ps_set (i := 1) sc_L_less.nd rfl (.inl rfl) (pe_lst pa_nil))
      (pss_cons (ps_for PassesOwn.never rfl (pi_enum (by rfl) G.n_enumerate (pa_cons (pv 0) pa_nil)) (pg_tup rfl (pgs_cons (pg_name (i := 2) sc_L_less.nd rfl (.inl rfl)) (pgs_cons (pg_name (i := 3) sc_L_less.nd rfl (.inl rfl)) pgs_nil)))
      (pss_one (ps_if (PW.pt (pw_or (pt_cmpR op_eq (pe_op op_add (pv 2) pe_int) (pe_callB call_len_seq (by rfl) G.n_len (by decide +kernel) (pa_cons (pv 0) pa_nil)) (nomark _)) (pw_or1 (pt_cmpR op_lt (pe_ix ix_list (pv 0) (pe_op op_add (pv 2) pe_int) (fun _ _ => rfl)) (pv 3) (nomark _)))))
      (pss_one (ps_expr (pe_bm PySem.F.plainAttrs_list PySem.F.slot_list_append PySem.F.type_list_append mt_append (pv 1) (pa_cons (pe_lc (own := [("_law_one", 4)]) (g := (gName 4)) (tt := (tTest (tOp _ (tVar 4) (tC _)))) (te := (tVar 4)) rfl sc_L_less.nd (pi_list (pe_op op_cat (pe_op op_cat (pe_slice sl_list (pv 0) po_none (po_some (pv 2))) (pe_lst (pa_cons (pe_op op_sub (pv 3) pe_int) pa_nil))) (pe_slice sl_list (pv 0) (po_some (pe_op op_add (pv 2) pe_int)) po_none))) (blkOk_by (own := [("_law_one", 4)]) (N := ["_law_shape_here", "_law_found", "_law_at", "_law_often", "_law_one"]) (sc := defScope st_L_less) (by decide +kernel)) (fun _ _ _ _ _ => (pg_name (i := 4) sc_L_less.nd rfl (.inl rfl))) (fun _ _ _ _ _ => (pts_one (pt_cmpR op_gt (pv 4) pe_int (nomark _)))) (fun _ _ _ _ _ => (pv 4))) pa_nil))))
      pss_nil)))
      (pss_one (ps_ret (pv 1))))), ?_⟩
    have hlen : ns.length ≤ 20 := by have := shape_len hs.2; omega
    refine q_asgL (xs := []) (el_lst ea_nil (by decide)) fun l H1 nl e1 hl1 => ?_
    refine q_forE (ev_var rfl) (ex_l e1 hS) (fun i σ' H' => ∃ us y2 y3 y4, σ' = [some (.ref a), some (.ref l), y2, y3, y4] ∧ Ex H H' ∧ H' l = some (.lst us) ∧ DpAll K (del H' l) us (dRows (((List.range i).filter (condL ns)).map (lessAt ns))))
      (fun H2 e2 => ⟨[], _, _, _, rfl, e1.trans e2, e2 _ _ hl1, .nil⟩) (fun i σ' H' _ hP => by obtain ⟨_, _, _, _, _, e, _⟩ := hP; exact ex_l e hS) (fun i x σ' H' T hi hP nT => ?_) (fun σ' H' hP => ?_)
    · obtain ⟨us, y2, y3, y4, rfl, eQ, hl', hus⟩ := hP
      obtain ⟨t, ht, rfl⟩ := int_at hi
      have hi' : i < ns.length := (List.getElem?_eq_some_iff.mp ht).1
      have et : ns.getD i 0 = t := by rw [List.getD_eq_getElem?_getD, ht]; rfl
      have hl3 : (upd H' T (.tup [.int (i : Int), .int t])) l = some (.lst us) := by rw [upd_ne (ne_of_none hl' nT)]; exact hl'
      have hus3 : DpAll K (del (upd H' T (.tup [.int (i : Int), .int t])) l) us (dRows (((List.range i).filter (condL ns)).map (lessAt ns))) := dpA_mono (del_mono (Ex.new nT)) hus
      have eH3 : Ex H (upd H' T (.tup [.int (i : Int), .int t])) := eQ.trans (Ex.new nT)
      revert eH3 hl3 hus3
      generalize upd H' T (.tup [.int (i : Int), .int t]) = H3
      intro hl3 hus3 eH3
      have hS3 := ex_l eH3 hS
      have hul : us.length ≤ 20 := by
        rw [dpA_len hus3, dRows_len, List.length_map]
        have h1 := List.length_filter_le (condL ns) (List.range i)
        rw [List.length_range] at h1
        omega
      refine s_when (b := condL ns i) (et_is (et_or (a := decide (i + 1 = ns.length)) (b := decide (ns.getD (i + 1) 0 < ns.getD i 0)) (et_test (ev_is (ev_op (ev_is (w := .int ((i + 1 : Nat) : Int)) (ev_op (ev_var rfl) ev_c rv_I0) (by congr 1)) (ev_len (ev_var rfl) hS3) (rv_eq rfl)) (by rw [List.length_map, dec_natL]))) fun hb => et_test (ev_is (ev_op (ev_op (ev_var rfl) (ev_is (w := .int ((i + 1 : Nat) : Int)) (ev_op (ev_var rfl) ev_c rv_I0) (by congr 1)) (rv_ixL hS3 (at_ints (by have := of_decide_eq_false hb; omega)))) (ev_var rfl) rv_I0) (by rw [et]))) rfl) (fun hb H4 e4 => ?_) (fun hb H4 e4 => ?_)
      · have hS4 := ex_l e4 hS3
        refine s_appL (ys := (lessAt ns i).map V.int) (e4 _ _ hl3) (ev_var rfl) (el_is (el_lcNL (xs := (cutAt ns i).map V.int) (fun k => decide (0 < (cutAt ns i).getD k 0)) (fun k => .int ((cutAt ns i).getD k 0)) (el_is (el_cat (el_cat (el_is (el_sl (ev_var rfl) eo_none (eo_some (ev_var rfl)) hS4) (cut_to ns i)) (el_lst (ea_cons (ev_op (ev_var rfl) ev_c rv_I0) ea_nil) (show 1 ≤ 100000 by decide)) (by rw [List.length_map, List.length_take]; show _ + 1 ≤ _; omega)) (el_is (el_sl (ev_var rfl) (eo_some (ev_is (w := .int ((i + 1 : Nat) : Int)) (ev_op (ev_var rfl) ev_c rv_I0) (by congr 1))) eo_none hS4) (cut_from ns (i + 1))) (by rw [List.length_append, List.length_map, List.length_map, List.length_take, List.length_drop]; show _ + 1 + _ ≤ _; omega)) (by unfold cutAt; rw [List.map_append, List.map_append, et]; rfl)) (by rw [List.length_map, cutAt_len hi']; omega) (fun x => rfl) (fun k x H5 e5 hk => ?_) fun k x H5 e5 hk _ => ?_) (given_pos ns i)) (by omega) fun p H5 np e5 hp => ⟨us ++ [.ref p], _, _, _, rfl, Ex.mut (eH3.trans (e4.trans e5)) nl, upd_same, ?_⟩
        · obtain ⟨m, hm, rfl⟩ := int_at hk
          have : (cutAt ns i).getD k 0 = m := by rw [List.getD_eq_getElem?_getD, hm]; rfl
          rw [this]
          exact et_test (ev_op (ev_var rfl) ev_c rv_I0)
        · obtain ⟨m, hm, rfl⟩ := int_at hk
          have : (cutAt ns i).getD k 0 = m := by rw [List.getD_eq_getElem?_getD, hm]; rfl
          rw [this]
          exact ev_var rfl
        rw [del_upd, List.range_succ, List.filter_append, List.map_append, List.filter_cons, if_pos hb]
        have npl : p ≠ l := (ne_of_none (e4 _ _ hl3) np).symm
        exact dpA_rows_app (dpA_mono (del_mono (e4.trans e5)) hus3) (.cons (dp_list (sq_of (by rw [del_ne npl]; exact hp))) .nil)
      · refine ⟨us, _, _, _, rfl, eH3.trans e4, e4 _ _ hl3, ?_⟩
        rw [List.range_succ, List.filter_append, List.filter_cons, if_neg (by rw [hb]; decide), List.filter_nil, List.append_nil]
        exact dpA_mono (del_mono e4) hus3
    · obtain ⟨us, y2, y3, y4, rfl, eQ, hl', hus⟩ := hP
      rw [List.length_map, less_dn hs] at hus
      exact s_ret (ev_var rfl) fun H2 e2 => q l us H2 nl (eQ.trans e2) (e2 _ _ hl') (dpA_mono ((del_ex _ _).trans e2) hus)
/-! ### law -/
abbrev st_law : Stmt := topS 27
theorem sc_law : FnScope ["_law_script", "_law_length", "_law_tallies", "_law_row", "_law_number_here", "_law_due", "_law_found", "_law_turns", "_law_shape_here", "_law_by", "_law_handed", "_law_told", "_law_less_here"] ["_law_script"] (defScope st_law) := ⟨rfl, rfl, rfl, by decide +kernel, rfl, by decide +kernel, by decide +kernel⟩

def sp_law (K : PySem.W.Frag) : Sp := fun vs H Q _ => ∃ (a : Addr) (ns : List Int), vs = [.ref a] ∧ SqL K H a (ns.map V.int) ∧ ns.length ≤ 63 ∧ (∀ z ∈ ns, Builtin.Int.intBits z ≤ 1048576) ∧ ∀ H', Q (.bl true) H'
theorem q_shape {K : PySem.W.Frag} {σ : L2.St} {H : Hp} {te tf : TE} {E : XK} {D : Ends} {tz : TS} {a : Addr} {ns : List Int} {b i : Nat} (h1 : Ev te σ H (.ref a)) (h2 : Ev tf σ H (.int (b : Int))) (hS : SqL K H a (ns.map V.int)) (hf : ∀ z ∈ ns, FitS z) (hb : b ≤ 100)
    (k : ∀ s p H2, IsShape s → s ≠ [] → s.sum ≤ 20 → H p = none → Ex H H2 → H2 p = some (.lst (s.map V.int)) → tz D (σ.set i (some (.ref p))) H2) : tSeq (tAsg (tCall (sp_L_shape K) [] E (tCons te (tCons tf tNil))) (gName i)) tz D σ H :=
  h1 H (Ex.refl _) _ fun H1 e1 => h2 H1 e1 _ fun H2 e2 => ⟨a, ns, b, rfl, ex_l (e1.trans e2) hS, hf, hb, fun s g1 g2 g3 p H3 np e3 hp => k s p H3 g1 g2 g3 (fresh_back (e1.trans e2) np) ((e1.trans e2).trans e3) hp⟩
theorem el_listOf {K : PySem.W.Frag} {σ : L2.St} {H : Hp} {ta : TE} {a : Addr} {xs : List V} (h : Ev ta σ H (.ref a)) (hs : SqL K H a xs) : EvL (tCB (rListS K) (tCons ta tNil)) σ H xs := fun H1 e Q q =>
  h H1 e _ fun H2 e2 => ⟨a, xs, rfl, .inl (ex_l (e.trans e2) hs), fun l nl => q l _ (fresh_back e2 nl) (e2.trans (Ex.new nl)) upd_same⟩
theorem tal_snoc {rows : List (List Int)} {i : Nat} {r : List Int} (h : rows[i]? = some r) : talF (rows.take (i + 1)) = putT (talF (rows.take i)) (shapeF r) ((getT (talF (rows.take i)) (shapeF r)).getD 0 + 1) := by
  have et : rows.take (i + 1) = rows.take i ++ [r] := by rw [List.take_add_one, h]; rfl
  rw [et, talF_snoc]
  rfl
theorem d_law {f : Addr} {fd : FuncData} (G : Gs mg) (F : Fun K "law" "law" st_law f fd) (D_L_rows : Def P w K mg base CX0 1 "_law_rows" ["_law_length"] (sp_L_rows K)) (D_shape_of : Def P w K mg base CX0 4 "shape_of" ["row"] (sp_shape_of K)) (D_L_number : Def P w K mg base CX0 2 "_law_number" ["_law_cell", "_law_k", "_law_limit"] (sp_L_number K)) (D_L_shape : Def P w K mg base CX0 3 "_law_shape" ["_law_script", "_law_by"] (sp_L_shape K)) (D_L_cell_at : Def P w K mg base CX0 1 "_law_cell_at" ["_law_script", "_law_k"] (sp_L_cell_at K)) (D_of_shape : Def P w K mg base CX0 3 "of_shape" ["shape"] (sp_of_shape K)) (D_L_is_row : Def P w K mg base CX0 2 "_law_is_row" ["_law_found"] (sp_L_is_row K)) (D_L_whole : Def P w K mg base CX0 1 "_law_whole" ["_law_found"] (sp_L_whole K)) (D_L_turned : Def P w K mg base CX0 1 "_law_turned" ["_law_shape_here"] (sp_L_turned K)) (D_L_less : Def P w K mg base CX0 1 "_law_less" ["_law_shape_here"] (sp_L_less K)) : FnOk P w K mg base CX0 5 f fd ["_law_script"] (sp_law K) := by
  refine F.ok (k := 4) sc_law (fun vs H Q E h => ?_) (fun cdv A outer s H vs Q E hr h => ?_)
  · obtain ⟨a, ns, rfl, _⟩ := h
    rfl
  · obtain ⟨a, ns, rfl, hS, hl, hb, q⟩ := h
    refine ⟨_, (pss_cons (ps_asg (pe_tup (pa_cons (pe_fn D_L_number (by decide) hr (by rfl) pass0 (pa_cons (pe_fn D_L_cell_at (by decide) hr (by rfl) pass0 (pa_cons (pv 0) (pa_cons pe_int pa_nil))) (pa_cons pe_int (pa_cons pe_int pa_nil)))) (pa_cons pe_dnewT pa_nil))) (pg_tup rfl (pgs_cons (pg_name (i := 1) sc_law.nd rfl (.inl rfl)) (pgs_cons (pg_name (i := 2) sc_law.nd rfl (.inr rfl)) pgs_nil))))
      (pss_cons (ps_for PassesOwn.never rfl (pi_list (pe_fn D_L_rows (by decide) hr (by rfl) pass0 (pa_cons (pv 1) pa_nil))) (pg_name (i := 3) sc_law.nd rfl (.inr rfl))
      (pss_cons (ps_setLc (i := 5) (own := [("_law_number_here", 4)]) (g := (gName 4)) (tt := tYes) (te := (tBM K "list" (rCntI K) (tVar 3) (tCons (tVar 4) tNil))) rfl sc_law.nd rfl rfl (sw_true rfl rfl rfl (by decide +kernel)) (pi_range1 (by rfl) G.n_range (pa_cons (pe_lenSetD rfl (by rfl) G.n_len (by rfl) G.n_set (pv 3)) pa_nil)) (blkOk_by (own := [("_law_number_here", 4)]) (N := ["_law_script", "_law_length", "_law_tallies", "_law_row", "_law_number_here", "_law_due", "_law_found", "_law_turns", "_law_shape_here", "_law_by", "_law_handed", "_law_told", "_law_less_here"]) (sc := defScope st_law) (by decide +kernel)) (fun _ _ _ _ _ => (pg_name (i := 4) sc_law.nd rfl (.inl rfl))) (fun _ _ _ _ _ => pts_nil) (fun _ _ _ _ _ => (pe_bm PySem.F.plainAttrs_list PySem.F.slot_list_count PySem.F.type_list_count mt_lcount (pv 3) (pa_cons (pv 4) pa_nil))))
      (pss_cons (ps_set (i := 6) sc_law.nd rfl (.inl rfl) (pe_fn D_shape_of (by decide) hr (by rfl) pass0 (pa_cons (pv 3) pa_nil)))
      (pss_cons (ps_if (PW.pt (pw_or (pt_not (pt_val (pe_fn D_L_is_row (by decide) hr (by rfl) pass0 (pa_cons (pv 6) pa_nil)))) (pw_or1 (pt_cmpR (op_neD hr.units) (pv 6) (pv 5) (nomark _)))))
      (pss_one (ps_ret pe_bl))
      pss_nil)
      (pss_one (ps_dput (hu_of hr) (pv 2) (pe_callTy call_tuple_of (by rfl) G.n_tuple (by decide +kernel) (pa_cons (pv 5) pa_nil)) (pe_op op_add (pe_dg2 (hu_of hr) (pv 2) (pe_callTy call_tuple_of (by rfl) G.n_tuple (by decide +kernel) (pa_cons (pv 5) pa_nil)) pe_int) pe_int) rfl))))))
      (pss_cons (ps_set (i := 7) sc_law.nd rfl (.inl rfl) pe_int)
      (pss_cons (ps_for PassesOwn.never rfl (pi_range1 (by rfl) G.n_range (pa_cons (pv 1) pa_nil)) (pg_name (i := 4) sc_law.nd rfl (.inl rfl))
      (pss_one (ps_set (i := 7) sc_law.nd rfl (.inl rfl) (pe_op op_mul (pv 7) (pe_op op_add (pv 4) pe_int)))))
      (pss_cons (ps_if (pt_val (pe_callB (cr_any rfl) (by rfl) G.n_any (by decide +kernel) (pa_cons (pe_lc (own := [("_law_shape_here", 8)]) (g := (gName 8)) (tt := tYes) (te := (tOp _ (tCall (sp_of_shape K) [] _ (tCons (tCB (rListS K) (tCons (tVar 8) tNil)) tNil)) (tDGet (tVar 2) (tVar 8)))) rfl sc_law.nd (pi_list (pe_callB (call_sortT rfl hr.units) (by rfl) G.n_sorted (by decide +kernel) (pa_cons (pv 2) pa_nil))) (blkOk_by (own := [("_law_shape_here", 8)]) (N := ["_law_script", "_law_length", "_law_tallies", "_law_row", "_law_number_here", "_law_due", "_law_found", "_law_turns", "_law_shape_here", "_law_by", "_law_handed", "_law_told", "_law_less_here"]) (sc := defScope st_law) (by decide +kernel)) (fun _ _ _ _ _ => (pg_name (i := 8) sc_law.nd rfl (.inl rfl))) (fun _ _ _ _ _ => pts_nil) (fun _ _ _ _ _ => (pe_cmpR op_ne (pe_fn D_of_shape (by decide) hr (by rfl) pass0 (pa_cons (pe_callTy call_list_of (by rfl) G.n_list (by decide +kernel) (pa_cons (pv 8) pa_nil)) pa_nil)) (pe_dget (hu_of hr) (pv 2) (pv 8) (fun _ _ => rfl)) (nomark _)))) pa_nil)))
      (pss_one (ps_ret pe_bl))
      pss_nil)
      (pss_cons (ps_if (pt_cmpR op_ne (pe_callB (cr_sum rfl) (by rfl) G.n_sum (by decide +kernel) (pa_cons (pe_lc (own := [("_law_shape_here", 8)]) (g := (gName 8)) (tt := tYes) (te := (tOp _ (tDGet (tVar 2) (tVar 8)) (tDGet (tVar 2) (tVar 8)))) rfl sc_law.nd (pi_list (pe_callB (call_sortT rfl hr.units) (by rfl) G.n_sorted (by decide +kernel) (pa_cons (pv 2) pa_nil))) (blkOk_by (own := [("_law_shape_here", 8)]) (N := ["_law_script", "_law_length", "_law_tallies", "_law_row", "_law_number_here", "_law_due", "_law_found", "_law_turns", "_law_shape_here", "_law_by", "_law_handed", "_law_told", "_law_less_here"]) (sc := defScope st_law) (by decide +kernel)) (fun _ _ _ _ _ => (pg_name (i := 8) sc_law.nd rfl (.inl rfl))) (fun _ _ _ _ _ => pts_nil) (fun _ _ _ _ _ => (pe_op op_mul (pe_dget (hu_of hr) (pv 2) (pv 8) (fun _ _ => rfl)) (pe_dget (hu_of hr) (pv 2) (pv 8) (fun _ _ => rfl))))) pa_nil)) (pv 7) (nomark _))
      (pss_one (ps_ret pe_bl))
      pss_nil)
      (pss_cons (ps_for PassesOwn.never rfl (pi_range1 (by rfl) G.n_range (pa_cons pe_int pa_nil)) (pg_name (i := 9) sc_law.nd rfl (.inl rfl))
      (pss_cons (ps_set (i := 8) sc_law.nd rfl (.inl rfl) (pe_fn D_L_shape (by decide) hr (by rfl) pass0 (pa_cons (pv 0) (pa_cons (pv 9) pa_nil))))
      (pss_cons (ps_par (i := 6) (j := 10) (by rfl) sc_law.nd rfl rfl (by decide) rfl rfl (pa_cons (pe_fn D_of_shape (by decide) hr (by rfl) pass0 (pa_cons (pv 8) pa_nil)) (pa_cons (pe_callTy call_list_of (by rfl) G.n_list (by decide +kernel) (pa_cons (pv 8) pa_nil)) pa_nil)) (by rfl))
      (pss_cons (ps_if (PW.pt (pw_or (pt_not (pt_val (pe_fn D_L_whole (by decide) hr (by rfl) pass0 (pa_cons (pv 6) pa_nil)))) (pw_or (pt_cmpR op_ne (pe_fn D_of_shape (by decide) hr (by rfl) pass0 (pa_cons (pe_fn D_L_turned (by decide) hr (by rfl) pass0 (pa_cons (pv 8) pa_nil)) pa_nil)) (pv 6) (nomark _)) (pw_or1 (pt_cmpR (op_neD hr.units) (pv 8) (pv 10) (nomark _))))))
      (pss_one (ps_ret pe_bl))
      pss_nil)
      (pss_one (ps_if (pt_cmpR op_ne (pv 6) (pe_callB (cr_sum rfl) (by rfl) G.n_sum (by decide +kernel) (pa_cons (pe_lc (own := [("_law_less_here", 12)]) (g := (gName 12)) (tt := tYes) (te := (tCall (sp_of_shape K) [] _ (tCons (tVar 12) tNil))) rfl sc_law.nd (pi_list (pe_fn D_L_less (by decide) hr (by rfl) pass0 (pa_cons (pv 8) pa_nil))) (blkOk_by (own := [("_law_less_here", 12)]) (N := ["_law_script", "_law_length", "_law_tallies", "_law_row", "_law_number_here", "_law_due", "_law_found", "_law_turns", "_law_shape_here", "_law_by", "_law_handed", "_law_told", "_law_less_here"]) (sc := defScope st_law) (by decide +kernel)) (fun _ _ _ _ _ => (pg_name (i := 12) sc_law.nd rfl (.inl rfl))) (fun _ _ _ _ _ => pts_nil) (fun _ _ _ _ _ => (pe_fn D_of_shape (by decide) hr (by rfl) pass0 (pa_cons (pv 12) pa_nil)))) pa_nil)) (nomark _))
      (pss_one (ps_ret pe_bl))
      pss_nil))))))
      (pss_cons (ps_if (PW.pt (pw_or (pt_cmpR op_ne (pe_fn D_of_shape (by decide) hr (by rfl) pass0 (pa_cons (pe_lst pa_nil) pa_nil)) pe_int (nomark _)) (pw_or (pt_cmpR op_ne (pe_fn D_of_shape (by decide) hr (by rfl) pass0 (pa_cons (pe_lst (pa_cons pe_int (pa_cons pe_int pa_nil))) pa_nil)) pe_int (nomark _)) (pw_or1 (pt_cmpR op_ne (pe_fn D_of_shape (by decide) hr (by rfl) pass0 (pa_cons (pe_lst (pa_cons pe_int (pa_cons pe_int pa_nil))) pa_nil)) pe_int (nomark _))))))
      (pss_one (ps_ret pe_bl))
      pss_nil)
      (pss_cons (ps_set (i := 3) sc_law.nd rfl (.inr rfl) (pe_lst (pa_cons pe_int (pa_cons pe_int (pa_cons pe_int pa_nil)))))
      (pss_cons (ps_set (i := 11) sc_law.nd rfl (.inl rfl) (pe_fn D_shape_of (by decide) hr (by rfl) pass0 (pa_cons (pv 3) pa_nil)))
      (pss_cons (ps_asg pe_int (pg_sub (pv 3) pe_int set_list))
      (pss_one (ps_ret (pe_cmpR (op_eqD hr.units) (pe_lst (pa_cons (pv 11) (pa_cons (pe_fn D_shape_of (by decide) hr (by rfl) pass0 (pa_cons (pv 3) pa_nil)) (pa_cons (pe_fn D_shape_of (by decide) hr (by rfl) pass0 (pa_cons (pe_lst (pa_cons pe_int (pa_cons pe_int (pa_cons pe_int pa_nil)))) pa_nil)) pa_nil)))) (pe_lst (pa_cons (pe_lst (pa_cons pe_int (pa_cons pe_int pa_nil))) (pa_cons (pe_lst (pa_cons pe_int pa_nil)) (pa_cons (pe_lst (pa_cons pe_int (pa_cons pe_int (pa_cons pe_int pa_nil)))) pa_nil)))) (nomark _))))))))))))))), ?_⟩
    have hf : ∀ z ∈ ns, FitS z := fun z hz => FitN.of_bits (hb z hz)
    have hc : ∀ k : Nat, FitS (cellAt ns k) := fun k => fit_cell (by decide) hf k
    obtain ⟨n, hn, hn6⟩ : ∃ n : Nat, numF (cellAt ns 0) 3 7 = (n : Int) ∧ n ≤ 6 := ⟨(numF (cellAt ns 0) 3 7).toNat, by have := numF_nn (cellAt ns 0) 3 (lim := 7) (by decide); omega, by have := numF_lt (cellAt ns 0) 3 (lim := 7) (by decide); omega⟩
    refine q_tupD (v := .int (n : Int)) (ev_is (ev_call (ea_cons (ev_call (ea_cons (ev_var rfl) (ea_cons (ev_is (w := .int ((0 : Nat) : Int)) ev_c rfl) ea_nil)) (ev_cell_at hS)) (ea_cons (ev_is (w := .int ((3 : Nat) : Int)) ev_c rfl) (ea_cons ev_c ea_nil))) (ev_number ((hc 0).mono (by decide)) (by decide) (by decide))) (by rw [hn])) fun d H1 nd e1 hd => ?_
    refine ed_rows hn6 |> fun hrows => edn_call (K := K) (dvs := []) (ea_cons (ev_var rfl) ea_nil) hrows H1 (Ex.refl _) _ fun pr vr H2 npr e2 hpr hdr => ?_
    have hd2 := e2 _ _ hd
    have hvl : vr.length = (rowsF n).length := by rw [dpA_len hdr, dRows_len]
    have hRf := rows_few hn6
    have eB : Ex H (del H2 d) := ex_del (e1.trans e2) nd
    have hprB : SqL K (del H2 d) pr vr := sql_del hd2 (sq_of hpr)
    have hdB : DpAll K (del H2 d) vr (dRows (rowsF n)) := dpA_del hd2 hdr
    have nB : (del H2 d) d = none := by unfold del; rw [if_pos rfl]
    refine ⟨pr, rfl, ⟨vr, sq_of hpr⟩, for_list (fun i σ' H' => ∃ y3 y4 y5 y6, σ' = [some (.ref a), some (.int (n : Int)), some (.ref d), y3, y4, y5, y6, none, none, none, none, none, none] ∧ Ex (del H2 d) H' ∧ H' d = some (.dT (talD (talF ((rowsF n).take i))))) ⟨_, _, _, _, rfl, del_ex _ _, hd2⟩ (fun i σ' H' _ hP => by obtain ⟨_, _, _, _, _, e, _⟩ := hP; exact ex_l e hprB) (fun i x σ' H' hi hP => ?_) (fun σ' H' hP => ?_)⟩
    · obtain ⟨y3, y4, y5, y6, rfl, eQ, hdd⟩ := hP
      obtain ⟨dd, hd1, hd3⟩ := dpA_at hdB hi
      obtain ⟨r, hr1, rfl⟩ := dRows_get hd1
      obtain ⟨c, rfl, hr0⟩ := dp_inv hd3
      have hr2 := ex_l eQ hr0
      obtain ⟨g1, g2⟩ := rows_ok (List.mem_of_getElem? hr1)
      have hk := knownF_le r
      have hsl : (shapeF r).length ≤ 6 := by unfold shapeF; rw [List.length_map, List.length_range]; omega
      have htl : (talF ((rowsF n).take i)).length ≤ 76 := by
        have h1 := talF_len ((rowsF n).take i)
        rw [List.length_take] at h1
        omega
      refine q_asgL (xs := (shapeF r).map V.int) (el_is (el_lcR1 (n := (knownF r : Int)) (fun _ => true) (fun k => .int ((r.count (k : Int) : Nat) : Int)) (ea_cons (ev_lenSet (ev_var rfl) hr2 (by omega)) ea_nil) ⟨by omega, by omega⟩ (fun x => rfl) (fun _ _ _ _ => et_yes) fun k H3 e3 _ _ => ev_count (ev_var rfl) (ex_l e3 hr2) (ev_var rfl)) (given_shape r)) fun p1 H3 np1 e3 hp1 => ?_
      refine q_asgL (xs := (shapeF r).map V.int) (el_call (ea_cons (ev_var rfl) ea_nil) (el_shape_of (ex_l e3 hr2) (by omega) g1)) fun p2 H4 np2 e4 hp2 => ?_
      have hp14 := e4 _ _ hp1
      refine q_when (b := false) (et_is (et_or (a := false) (b := false) (et_not (a := true) (et_B (ev_call (ea_cons (ev_var rfl) ea_nil) (ev_is_row (sq_of hp2) (by omega))))) fun _ => et_test (ev_op (ev_var rfl) (ev_var rfl) (rv_neSame (sq_of hp2) (sq_of hp14)))) rfl) (fun hb => nomatch hb) fun _ H5 e5 => ?_
      have hd5 := (e3.trans (e4.trans e5)) _ _ hdd
      have hp15 := e5 _ _ hp14
      refine s_tput (m := talF ((rowsF n).take i)) (s := shapeF r) (i := (getT (talF ((rowsF n).take i)) (shapeF r)).getD 0 + 1) (ev_var rfl) hd5 (ev_op (ev_tget2 (ev_var rfl) hd5 (eu_tupOf (ev_var rfl) (sq_of hp15)) ev_c) ev_c rv_I0) (eu_tupOf (ev_var rfl) (sq_of hp15)) (by omega) fun H6 e6 => ⟨_, _, _, _, rfl, Ex.mut (eQ.trans (e3.trans (e4.trans (e5.trans e6)))) nB, ?_⟩
      rw [upd_same, tal_snoc hr1]
    obtain ⟨y3, y4, y5, y6, rfl, eQ, hdd⟩ := hP
    rw [hvl, List.take_length] at hdd
    obtain ⟨t1, t2, t3⟩ := tal_ok hn6
    have htl : (talF (rowsF n)).length ≤ 76 := by have := talF_len (rowsF n); omega
    have eH : Ex H H' := eB.trans eQ
    clear eQ hprB hdB nB
    refine q_asg (v := .int 1) ev_c fun H3 e3 => ?_
    refine q_forR1 (n := (n : Int)) (ea_cons (ev_var rfl) ea_nil) ⟨by omega, by omega⟩ (fun i σ' H'' => ∃ z4, σ' = [some (.ref a), some (.int (n : Int)), some (.ref d), y3, z4, y5, y6, some (.int (topF i)), none, none, none, none, none] ∧ Ex H' H'')
      (fun H4 e4 => ⟨_, rfl, e3.trans e4⟩) (fun i σ' H'' hi hP => ?_) (fun σ' H'' hP => ?_)
    · obtain ⟨z4, rfl, eR⟩ := hP
      exact s_asg (v := .int (topF (i + 1))) (ev_op (ev_var rfl) (ev_op (ev_var rfl) ev_c rv_I0) (rv_I (.inr ⟨by omega, by omega⟩))) fun H5 e5 => ⟨_, rfl, eR.trans e5⟩
    obtain ⟨z4, rfl, eR⟩ := hP
    rw [Int.toNat_natCast]
    have hd6 := eR _ _ hdd
    refine q_when (b := false) (et_B (ev_anyT (K := K) (ev_var rfl) hd6 (by omega) t1 (fun x => rfl) fun b p H4 e4 hp hb4 => ?_)) (fun hb => nomatch hb) fun _ H4 e4 => ?_
    · obtain ⟨o1, o2, o3, o4⟩ := t2 p hp
      exact ev_is (ev_op (ev_callN (el_listT (ev_var rfl) hb4) fun q1 H5 e5 h5 => ev_of_shape (sq_of h5) o2 o3) (ev_tget (ev_var rfl) (e4 _ _ hd6) (ev_var rfl) hb4 o4) (rv_ne rfl)) (by rw [o1, decide_eq_true rfl]; rfl)
    have hd7 := e4 _ _ hd6
    refine q_when (b := false) (et_test (ev_is (ev_op (ev_sumT (K := K) (fun s => ofF s * ofF s) (ev_var rfl) hd7 (by omega) t1 (fun x => rfl) fun b p H5 e5 hp hb5 => ?_) (ev_var rfl) (rv_ne rfl)) ?_)) (fun hb => nomatch hb) fun _ H5 e5 => ?_
    · obtain ⟨o1, o2, o3, o4⟩ := t2 p hp
      have o5 := tal_small hn6 p hp
      rw [← o1] at o4 o5
      exact ev_op (ev_tget (ev_var rfl) (e5 _ _ hd7) (ev_var rfl) hb5 o4) (ev_tget (ev_var rfl) (e5 _ _ hd7) (ev_var rfl) hb5 o4) (rv_I (.inr ⟨by omega, by omega⟩))
    · have e0 : (talF (rowsF n)).map (fun p => ofF p.1 * ofF p.1) = (talF (rowsF n)).map (fun p => p.2 * p.2) := List.map_congr_left fun p hp => by rw [(t2 p hp).1]
      rw [e0, t3, decide_eq_true rfl]
      rfl
    have eH5 : Ex H H5 := eH.trans (eR.trans (e4.trans e5))
    refine q_forR1 (n := 4) (ea_cons ev_c ea_nil) ⟨by omega, by omega⟩ (fun i σ' H'' => ∃ z6 z8 z9 z10 z11 z12, σ' = [some (.ref a), some (.int (n : Int)), some (.ref d), y3, z4, y5, z6, some (.int (topF n)), z8, z9, z10, z11, z12] ∧ Ex H H'')
      (fun H6 e6 => ⟨_, _, _, _, _, _, rfl, eH5.trans e6⟩) (fun i σ' H'' hi hP => ?_) (fun σ' H'' hP => ?_)
    · obtain ⟨z6, z8, z9, z10, z11, z12, rfl, eS⟩ := hP
      refine q_shape (b := i) (ev_var rfl) (ev_var rfl) (ex_l eS hS) hf (by omega) fun s p H6 hs h0 hsum np e6 hp => ?_
      obtain ⟨u1, u2, u3, u4⟩ := shape_turn hs hsum h0
      refine q_parVL (v := .int (ofF s)) (ev_call (ea_cons (ev_var rfl) ea_nil) (ev_of_shape (sq_of hp) hs hsum)) (el_listOf (ev_var rfl) (sq_of hp)) fun p2 H7 np2 e7 hp2 => ?_
      have hp7 := e7 _ _ hp
      refine q_when (b := false) (et_is (et_or (a := false) (b := false) (et_not (a := true) (et_B (ev_call (ea_cons (ev_var rfl) ea_nil) ev_whole))) fun _ => et_or (a := false) (b := false) (et_test (ev_is (ev_op (ev_callN (el_call (ea_cons (ev_var rfl) ea_nil) (el_turned (sq_of hp7) hs h0 hsum)) fun q1 H8 e8 h8 => ev_of_shape (sq_of h8) u3 (by rw [u2]; exact hsum)) (ev_var rfl) (rv_ne rfl)) (by rw [u1, decide_eq_true rfl]; rfl))) fun _ => et_test (ev_op (ev_var rfl) (ev_var rfl) (rv_neSame (sq_of hp7) (sq_of hp2)))) rfl) (fun hb => nomatch hb) fun _ H8 e8 => ?_
      have hp8 := e8 _ _ hp7
      have hdl : (dnF s).length ≤ 20 := by
        rw [← less_dn hs, List.length_map]
        have h1 := List.length_filter_le (condL s) (List.range s.length)
        rw [List.length_range] at h1
        have := shape_len hs.2
        omega
      refine s_when (b := false) (et_test (ev_is (ev_op (ev_var rfl) (ev_sumN (ns := (dnF s).map ofF) (el_is (el_lcD (ds := dRows (dnF s)) (fun _ => true) (fun k => .int (ofF ((dnF s).getD k []))) (EvDN.ed (edn_call (ea_cons (ev_var rfl) ea_nil) (ed_less (sq_of hp8) hs hsum))) (by rw [dRows_len]; omega) (fun x => rfl) (fun _ _ _ _ _ _ _ => et_yes) fun k x dd H9 e9 hk hdd9 _ => ?_) (given_intsF (dnF s) ofF))) (rv_ne rfl)) ?_)) (fun hb => nomatch hb) fun _ H9 e9 => ⟨_, _, _, _, _, _, rfl, eS.trans (e6.trans (e7.trans (e8.trans e9)))⟩
      · obtain ⟨r, hr1, rfl⟩ := dRows_get hk
        obtain ⟨c, rfl, hr0⟩ := dp_inv hdd9
        have hm := List.mem_of_getElem? hr1
        have eg : (dnF s).getD k [] = r := by rw [List.getD_eq_getElem?_getD, hr1]; rfl
        rw [eg]
        exact ev_call (ea_cons (ev_var rfl) ea_nil) (ev_of_shape hr0 (dn_head hs hm).1 (by have := dn_sum hs hm; omega))
      · have u5 : ofF s = ((dnF s).map ofF).sum := u4
        rw [u5, decide_eq_true rfl]
        rfl
    obtain ⟨z6, z8, z9, z10, z11, z12, rfl, eS⟩ := hP
    have sh32 : IsShape [3, 2] ∧ IsShape [10, 10] := ⟨⟨by decide, by decide⟩, ⟨by decide, by decide⟩⟩
    have two : ∀ (σ0 : L2.St) (H0 : Hp) (m k : Int), EvL (tLst (tCons (tC (.int m)) (tCons (tC (.int k)) tNil))) σ0 H0 (([m, k] : List Int).map V.int) := fun _ _ _ _ => el_lst (ea_cons ev_c (ea_cons ev_c ea_nil)) (show 2 ≤ 100000 by decide)
    have three : ∀ (σ0 : L2.St) (H0 : Hp) (n1 n2 n3 : Int), EvL (tLst (tCons (tC (.int n1)) (tCons (tC (.int n2)) (tCons (tC (.int n3)) tNil)))) σ0 H0 (([n1, n2, n3] : List Int).map V.int) := fun _ _ _ _ _ => el_lst (ea_cons ev_c (ea_cons ev_c (ea_cons ev_c ea_nil))) (show 3 ≤ 100000 by decide)
    refine q_when (b := false) (et_is (et_or (a := false) (b := false) (et_test (ev_is (ev_op (ev_callN (ns := []) (el_lst ea_nil (by decide)) fun q1 H6 e6 h6 => ev_of_shape (sq_of h6) isShape_nil (by decide)) ev_c (rv_ne rfl)) (by decide))) fun _ => et_or (a := false) (b := false) (et_test (ev_is (ev_op (ev_callN (two _ _ 3 2) fun q1 H6 e6 h6 => ev_of_shape (sq_of h6) sh32.1 (by decide)) ev_c (rv_ne rfl)) (by decide +kernel))) fun _ => et_test (ev_is (ev_op (ev_callN (two _ _ 10 10) fun q1 H6 e6 h6 => ev_of_shape (sq_of h6) sh32.2 (by decide)) ev_c (rv_ne rfl)) (by decide +kernel))) rfl) (fun hb => nomatch hb) fun _ H6 e6 => ?_
    refine q_asgL (xs := ([0, 0, 1] : List Int).map V.int) (three _ _ 0 0 1) fun pr2 H7 npr2 e7 hpr7 => ?_
    have g001 : Good [0, 0, 1] := firstWrong_good.mp (by decide)
    have g000 : Good [0, 0, 0] := firstWrong_good.mp (by decide)
    have g012 : Good [0, 1, 2] := firstWrong_good.mp (by decide)
    refine q_asgL (xs := ([2, 1] : List Int).map V.int) (el_is (el_call (ea_cons (ev_var rfl) ea_nil) (el_shape_of (sq_of hpr7) (by decide) g001)) (by decide)) fun pt H8 npt e8 hpt => ?_
    have hpr8 := e8 _ _ hpr7
    have ntp : pt ≠ pr2 := (ne_of_none hpr7 npt).symm
    refine q_setL (j := 2) (v := .int 0) (l := pr2) (xs := ([0, 0, 1] : List Int).map V.int) hpr8 ev_c (ev_var rfl) ev_c (by decide) fun H9 e9 => ?_
    have k1 : (upd H9 pr2 (.lst ((([0, 0, 1] : List Int).map V.int).set 2 (.int 0)))) pt = some (.lst (([2, 1] : List Int).map V.int)) := by rw [upd_ne ntp]; exact e9 _ _ hpt
    have k2 : (upd H9 pr2 (.lst ((([0, 0, 1] : List Int).map V.int).set 2 (.int 0)))) pr2 = some (.lst (([0, 0, 0] : List Int).map V.int)) := upd_same
    revert k1 k2
    generalize upd H9 pr2 (.lst ((([0, 0, 1] : List Int).map V.int).set 2 (.int 0))) = H10
    intro k1 k2
    exact s_ret (v := .bl true) (ev_is (ev_eqD (K := K) (d := .list (dRows [[2, 1], [3], [1, 1, 1]])) (e := .list (dRows [[2, 1], [3], [1, 1, 1]])) (EvDN.ed (edn_lst (eda_cons (ed_ev (ev_var rfl) (dp_list (sq_of k1))) (eda_cons (ed_L (ns := [3]) (el_is (el_call (ea_cons (ev_var rfl) ea_nil) (el_shape_of (sq_of k2) (by decide) g000)) (by decide))) (eda_cons (ed_L (ns := [1, 1, 1]) (el_is (el_callN (three _ _ 0 1 2) fun q1 H11 e11 h11 => el_shape_of (sq_of h11) (by decide) g012) (by decide))) eda_nil))) (by decide))) (EvDN.ed (edn_lst (eda_cons (ed_L (ns := [2, 1]) (two _ _ 2 1)) (eda_cons (ed_L (ns := [3]) (el_lst (ea_cons ev_c ea_nil) (show 1 ≤ 100000 by decide))) (eda_cons (ed_L (ns := [1, 1, 1]) (three _ _ 1 1 1)) eda_nil))) (by decide))) (shaped_rows _) (shaped_rows _)) (by rw [eqv_rowsL, decide_eq_true rfl])) fun H11 e11 => q H11
end
end Oa
namespace Oa
open PySem PySem.Spec PyProof.Rows L2 Evl
theorem all_mk {l : PySem.W.OpenLaw} {w : World} {K : PySem.W.Frag} {h : Heap} {mg : Str → Option Value} {fa : Addr} {f0 : Addr} {od0 an0 : Option Addr} {sl0 : Array (Option Value)} {oc0 kV0 dc0 pm0 cd0 ct0 : Value} {f1 : Addr} {od1 an1 : Option Addr} {sl1 : Array (Option Value)} {oc1 kV1 dc1 pm1 cd1 ct1 : Value} {f2 : Addr} {od2 an2 : Option Addr} {sl2 : Array (Option Value)} {oc2 kV2 dc2 pm2 cd2 ct2 : Value} {f3 : Addr} {od3 an3 : Option Addr} {sl3 : Array (Option Value)} {oc3 kV3 dc3 pm3 cd3 ct3 : Value} {f4 : Addr} {od4 an4 : Option Addr} {sl4 : Array (Option Value)} {oc4 kV4 dc4 pm4 cd4 ct4 : Value} {f5 : Addr} {od5 an5 : Option Addr} {sl5 : Array (Option Value)} {oc5 kV5 dc5 pm5 cd5 ct5 : Value} {f6 : Addr} {od6 an6 : Option Addr} {sl6 : Array (Option Value)} {oc6 kV6 dc6 pm6 cd6 ct6 : Value} {f7 : Addr} {od7 an7 : Option Addr} {sl7 : Array (Option Value)} {oc7 kV7 dc7 pm7 cd7 ct7 : Value} {f8 : Addr} {od8 an8 : Option Addr} {sl8 : Array (Option Value)} {oc8 kV8 dc8 pm8 cd8 ct8 : Value} {f9 : Addr} {od9 an9 : Option Addr} {sl9 : Array (Option Value)} {oc9 kV9 dc9 pm9 cd9 ct9 : Value} {f10 : Addr} {od10 an10 : Option Addr} {sl10 : Array (Option Value)} {oc10 kV10 dc10 pm10 cd10 ct10 : Value} {f11 : Addr} {od11 an11 : Option Addr} {sl11 : Array (Option Value)} {oc11 kV11 dc11 pm11 cd11 ct11 : Value} {f12 : Addr} {od12 an12 : Option Addr} {sl12 : Array (Option Value)} {oc12 kV12 dc12 pm12 cd12 ct12 : Value} {f13 : Addr} {od13 an13 : Option Addr} {sl13 : Array (Option Value)} {oc13 kV13 dc13 pm13 cd13 ct13 : Value} {f14 : Addr} {od14 an14 : Option Addr} {sl14 : Array (Option Value)} {oc14 kV14 dc14 pm14 cd14 ct14 : Value} {f15 : Addr} {od15 an15 : Option Addr} {sl15 : Array (Option Value)} {oc15 kV15 dc15 pm15 cd15 ct15 : Value} {f16 : Addr} {od16 an16 : Option Addr} {sl16 : Array (Option Value)} {oc16 kV16 dc16 pm16 cd16 ct16 : Value} {f17 : Addr} {od17 an17 : Option Addr} {sl17 : Array (Option Value)} {oc17 kV17 dc17 pm17 cd17 ct17 : Value} {tk0 : Tok} (X : K.In h) (N : h.Ns mainGlobals mg) (hfa : mg "law" = some (.ref fa))
    (a0 : PySem.W.nsIn K mainGlobals "is_number" = some (some (.ref f0)))
    (l0 : K.lookup f0 = some ⟨oc0, od0, .func (PySem.W.fnOf "is_number" "is_number" (defArgs st_is_number) (defBody st_is_number) (defScope st_is_number) .none kV0 dc0 pm0 an0 cd0 ct0), sl0⟩)
    (c0 : PySem.W.codeIn K cd0 "is_number" = true) (k0 : PySem.W.keepIn K (.ref f0) = true)
    (a1 : PySem.W.nsIn K mainGlobals "check_row" = some (some (.ref f1)))
    (l1 : K.lookup f1 = some ⟨oc1, od1, .func (PySem.W.fnOf "check_row" "check_row" (defArgs st_check_row) (defBody st_check_row) (defScope st_check_row) .none kV1 dc1 pm1 an1 cd1 ct1), sl1⟩)
    (c1 : PySem.W.codeIn K cd1 "check_row" = true) (k1 : PySem.W.keepIn K (.ref f1) = true)
    (a2 : PySem.W.nsIn K mainGlobals "left_for" = some (some (.ref f2)))
    (l2 : K.lookup f2 = some ⟨oc2, od2, .func (PySem.W.fnOf "left_for" "left_for" (defArgs st_left_for) (defBody st_left_for) (defScope st_left_for) .none kV2 dc2 pm2 an2 cd2 ct2), sl2⟩)
    (c2 : PySem.W.codeIn K cd2 "left_for" = true) (k2 : PySem.W.keepIn K (.ref f2) = true)
    (a3 : PySem.W.nsIn K mainGlobals "first_wrong" = some (some (.ref f3)))
    (l3 : K.lookup f3 = some ⟨oc3, od3, .func (PySem.W.fnOf "first_wrong" "first_wrong" (defArgs st_first_wrong) (defBody st_first_wrong) (defScope st_first_wrong) .none kV3 dc3 pm3 an3 cd3 ct3), sl3⟩)
    (c3 : PySem.W.codeIn K cd3 "first_wrong" = true) (k3 : PySem.W.keepIn K (.ref f3) = true)
    (a4 : PySem.W.nsIn K mainGlobals "check_counts" = some (some (.ref f4)))
    (l4 : K.lookup f4 = some ⟨oc4, od4, .func (PySem.W.fnOf "check_counts" "check_counts" (defArgs st_check_counts) (defBody st_check_counts) (defScope st_check_counts) .none kV4 dc4 pm4 an4 cd4 ct4), sl4⟩)
    (c4 : PySem.W.codeIn K cd4 "check_counts" = true) (k4 : PySem.W.keepIn K (.ref f4) = true)
    (a5 : PySem.W.nsIn K mainGlobals "shape_of" = some (some (.ref f5)))
    (l5 : K.lookup f5 = some ⟨oc5, od5, .func (PySem.W.fnOf "shape_of" "shape_of" (defArgs st_shape_of) (defBody st_shape_of) (defScope st_shape_of) .none kV5 dc5 pm5 an5 cd5 ct5), sl5⟩)
    (c5 : PySem.W.codeIn K cd5 "shape_of" = true) (k5 : PySem.W.keepIn K (.ref f5) = true)
    (a6 : PySem.W.nsIn K mainGlobals "check_shape" = some (some (.ref f6)))
    (l6 : K.lookup f6 = some ⟨oc6, od6, .func (PySem.W.fnOf "check_shape" "check_shape" (defArgs st_check_shape) (defBody st_check_shape) (defScope st_check_shape) .none kV6 dc6 pm6 an6 cd6 ct6), sl6⟩)
    (c6 : PySem.W.codeIn K cd6 "check_shape" = true) (k6 : PySem.W.keepIn K (.ref f6) = true)
    (a7 : PySem.W.nsIn K mainGlobals "of_shape" = some (some (.ref f7)))
    (l7 : K.lookup f7 = some ⟨oc7, od7, .func (PySem.W.fnOf "of_shape" "of_shape" (defArgs st_of_shape) (defBody st_of_shape) (defScope st_of_shape) .none kV7 dc7 pm7 an7 cd7 ct7), sl7⟩)
    (c7 : PySem.W.codeIn K cd7 "of_shape" = true) (k7 : PySem.W.keepIn K (.ref f7) = true)
    (a8 : PySem.W.nsIn K mainGlobals "_law_cell_at" = some (some (.ref f8)))
    (l8 : K.lookup f8 = some ⟨oc8, od8, .func (PySem.W.fnOf "_law_cell_at" "_law_cell_at" (defArgs st_L_cell_at) (defBody st_L_cell_at) (defScope st_L_cell_at) .none kV8 dc8 pm8 an8 cd8 ct8), sl8⟩)
    (c8 : PySem.W.codeIn K cd8 "_law_cell_at" = true) (k8 : PySem.W.keepIn K (.ref f8) = true)
    (a9 : PySem.W.nsIn K mainGlobals "_law_draw" = some (some (.ref f9)))
    (l9 : K.lookup f9 = some ⟨oc9, od9, .func (PySem.W.fnOf "_law_draw" "_law_draw" (defArgs st_L_draw) (defBody st_L_draw) (defScope st_L_draw) .none kV9 dc9 pm9 an9 cd9 ct9), sl9⟩)
    (c9 : PySem.W.codeIn K cd9 "_law_draw" = true) (k9 : PySem.W.keepIn K (.ref f9) = true)
    (a10 : PySem.W.nsIn K mainGlobals "_law_number" = some (some (.ref f10)))
    (l10 : K.lookup f10 = some ⟨oc10, od10, .func (PySem.W.fnOf "_law_number" "_law_number" (defArgs st_L_number) (defBody st_L_number) (defScope st_L_number) .none kV10 dc10 pm10 an10 cd10 ct10), sl10⟩)
    (c10 : PySem.W.codeIn K cd10 "_law_number" = true) (k10 : PySem.W.keepIn K (.ref f10) = true)
    (a11 : PySem.W.nsIn K mainGlobals "_law_rows" = some (some (.ref f11)))
    (l11 : K.lookup f11 = some ⟨oc11, od11, .func (PySem.W.fnOf "_law_rows" "_law_rows" (defArgs st_L_rows) (defBody st_L_rows) (defScope st_L_rows) .none kV11 dc11 pm11 an11 cd11 ct11), sl11⟩)
    (c11 : PySem.W.codeIn K cd11 "_law_rows" = true) (k11 : PySem.W.keepIn K (.ref f11) = true)
    (a12 : PySem.W.nsIn K mainGlobals "_law_whole" = some (some (.ref f12)))
    (l12 : K.lookup f12 = some ⟨oc12, od12, .func (PySem.W.fnOf "_law_whole" "_law_whole" (defArgs st_L_whole) (defBody st_L_whole) (defScope st_L_whole) .none kV12 dc12 pm12 an12 cd12 ct12), sl12⟩)
    (c12 : PySem.W.codeIn K cd12 "_law_whole" = true) (k12 : PySem.W.keepIn K (.ref f12) = true)
    (a13 : PySem.W.nsIn K mainGlobals "_law_is_row" = some (some (.ref f13)))
    (l13 : K.lookup f13 = some ⟨oc13, od13, .func (PySem.W.fnOf "_law_is_row" "_law_is_row" (defArgs st_L_is_row) (defBody st_L_is_row) (defScope st_L_is_row) .none kV13 dc13 pm13 an13 cd13 ct13), sl13⟩)
    (c13 : PySem.W.codeIn K cd13 "_law_is_row" = true) (k13 : PySem.W.keepIn K (.ref f13) = true)
    (a14 : PySem.W.nsIn K mainGlobals "_law_shape" = some (some (.ref f14)))
    (l14 : K.lookup f14 = some ⟨oc14, od14, .func (PySem.W.fnOf "_law_shape" "_law_shape" (defArgs st_L_shape) (defBody st_L_shape) (defScope st_L_shape) .none kV14 dc14 pm14 an14 cd14 ct14), sl14⟩)
    (c14 : PySem.W.codeIn K cd14 "_law_shape" = true) (k14 : PySem.W.keepIn K (.ref f14) = true)
    (a15 : PySem.W.nsIn K mainGlobals "_law_turned" = some (some (.ref f15)))
    (l15 : K.lookup f15 = some ⟨oc15, od15, .func (PySem.W.fnOf "_law_turned" "_law_turned" (defArgs st_L_turned) (defBody st_L_turned) (defScope st_L_turned) .none kV15 dc15 pm15 an15 cd15 ct15), sl15⟩)
    (c15 : PySem.W.codeIn K cd15 "_law_turned" = true) (k15 : PySem.W.keepIn K (.ref f15) = true)
    (a16 : PySem.W.nsIn K mainGlobals "_law_less" = some (some (.ref f16)))
    (l16 : K.lookup f16 = some ⟨oc16, od16, .func (PySem.W.fnOf "_law_less" "_law_less" (defArgs st_L_less) (defBody st_L_less) (defScope st_L_less) .none kV16 dc16 pm16 an16 cd16 ct16), sl16⟩)
    (c16 : PySem.W.codeIn K cd16 "_law_less" = true) (k16 : PySem.W.keepIn K (.ref f16) = true)
    (a17 : PySem.W.nsIn K mainGlobals "law" = some (some (.ref f17)))
    (l17 : K.lookup f17 = some ⟨oc17, od17, .func (PySem.W.fnOf "law" "law" (defArgs st_law) (defBody st_law) (defScope st_law) .none kV17 dc17 pm17 an17 cd17 ct17), sl17⟩)
    (c17 : PySem.W.codeIn K cd17 "law" = true) (k17 : PySem.W.keepIn K (.ref f17) = true)
    (z0 : PySem.W.nsIn K mainGlobals "all" = some none)
    (z1 : PySem.W.nsIn K mainGlobals "any" = some none)
    (z2 : PySem.W.nsIn K mainGlobals "bool" = some none)
    (z3 : PySem.W.nsIn K mainGlobals "enumerate" = some none)
    (z4 : PySem.W.nsIn K mainGlobals "int" = some none)
    (z5 : PySem.W.nsIn K mainGlobals "isinstance" = some none)
    (z6 : PySem.W.nsIn K mainGlobals "len" = some none)
    (z7 : PySem.W.nsIn K mainGlobals "list" = some none)
    (z8 : PySem.W.nsIn K mainGlobals "min" = some none)
    (z9 : PySem.W.nsIn K mainGlobals "range" = some none)
    (z10 : PySem.W.nsIn K mainGlobals "set" = some none)
    (z11 : PySem.W.nsIn K mainGlobals "sorted" = some none)
    (z12 : PySem.W.nsIn K mainGlobals "sum" = some none)
    (z13 : PySem.W.nsIn K mainGlobals "tuple" = some none)
    (z14 : PySem.W.nsIn K mainGlobals "zip" = some none)
    (w0 : PySem.W.nsIn K mainGlobals "LONGEST" = some (some (.int 20 tk0))) :
    ∃ fd : FuncData, (∀ (s : Shared) (v : Value), BindsTo s fd ⟨[v], []⟩ [("_law_script", v)]) ∧ ∀ base : Heap, K.In base → base.Ns mainGlobals mg → FnOk l.prog w K mg base CX0 5 fa fd ["_law_script"] (sp_law K) := by
  have e := hfa.symm.trans (PySem.W.mg_of X N a17)
  cases e
  have G : Gs mg := ⟨PySem.W.mg_none_of X N z0, PySem.W.mg_none_of X N z1, PySem.W.mg_none_of X N z2, PySem.W.mg_none_of X N z3, PySem.W.mg_none_of X N z4, PySem.W.mg_none_of X N z5, PySem.W.mg_none_of X N z6, PySem.W.mg_none_of X N z7, PySem.W.mg_none_of X N z8, PySem.W.mg_none_of X N z9, PySem.W.mg_none_of X N z10, PySem.W.mg_none_of X N z11, PySem.W.mg_none_of X N z12, PySem.W.mg_none_of X N z13, PySem.W.mg_none_of X N z14, ⟨_, PySem.W.mg_of X N w0⟩⟩
  have p0 : Pl K mg "is_number" st_is_number ["thing"] := pl_mk X N a0 l0 c0 k0 fun _ _ _ _ _ _ us hl => match us, hl with | [_], _ => rfl
  have p1 : Pl K mg "check_row" st_check_row ["row"] := pl_mk X N a1 l1 c1 k1 fun _ _ _ _ _ _ us hl => match us, hl with | [_], _ => rfl
  have p2 : Pl K mg "left_for" st_left_for ["row", "place"] := pl_mk X N a2 l2 c2 k2 fun _ _ _ _ _ _ us hl => match us, hl with | [_, _], _ => rfl
  have p3 : Pl K mg "first_wrong" st_first_wrong ["row"] := pl_mk X N a3 l3 c3 k3 fun _ _ _ _ _ _ us hl => match us, hl with | [_], _ => rfl
  have p4 : Pl K mg "check_counts" st_check_counts ["row"] := pl_mk X N a4 l4 c4 k4 fun _ _ _ _ _ _ us hl => match us, hl with | [_], _ => rfl
  have p5 : Pl K mg "shape_of" st_shape_of ["row"] := pl_mk X N a5 l5 c5 k5 fun _ _ _ _ _ _ us hl => match us, hl with | [_], _ => rfl
  have p6 : Pl K mg "check_shape" st_check_shape ["shape"] := pl_mk X N a6 l6 c6 k6 fun _ _ _ _ _ _ us hl => match us, hl with | [_], _ => rfl
  have p7 : Pl K mg "of_shape" st_of_shape ["shape"] := pl_mk X N a7 l7 c7 k7 fun _ _ _ _ _ _ us hl => match us, hl with | [_], _ => rfl
  have p8 : Pl K mg "_law_cell_at" st_L_cell_at ["_law_script", "_law_k"] := pl_mk X N a8 l8 c8 k8 fun _ _ _ _ _ _ us hl => match us, hl with | [_, _], _ => rfl
  have p9 : Pl K mg "_law_draw" st_L_draw ["_law_cell", "_law_k", "_law_most"] := pl_mk X N a9 l9 c9 k9 fun _ _ _ _ _ _ us hl => match us, hl with | [_, _, _], _ => rfl
  have p10 : Pl K mg "_law_number" st_L_number ["_law_cell", "_law_k", "_law_limit"] := pl_mk X N a10 l10 c10 k10 fun _ _ _ _ _ _ us hl => match us, hl with | [_, _, _], _ => rfl
  have p11 : Pl K mg "_law_rows" st_L_rows ["_law_length"] := pl_mk X N a11 l11 c11 k11 fun _ _ _ _ _ _ us hl => match us, hl with | [_], _ => rfl
  have p12 : Pl K mg "_law_whole" st_L_whole ["_law_found"] := pl_mk X N a12 l12 c12 k12 fun _ _ _ _ _ _ us hl => match us, hl with | [_], _ => rfl
  have p13 : Pl K mg "_law_is_row" st_L_is_row ["_law_found"] := pl_mk X N a13 l13 c13 k13 fun _ _ _ _ _ _ us hl => match us, hl with | [_], _ => rfl
  have p14 : Pl K mg "_law_shape" st_L_shape ["_law_script", "_law_by"] := pl_mk X N a14 l14 c14 k14 fun _ _ _ _ _ _ us hl => match us, hl with | [_, _], _ => rfl
  have p15 : Pl K mg "_law_turned" st_L_turned ["_law_shape_here"] := pl_mk X N a15 l15 c15 k15 fun _ _ _ _ _ _ us hl => match us, hl with | [_], _ => rfl
  have p16 : Pl K mg "_law_less" st_L_less ["_law_shape_here"] := pl_mk X N a16 l16 c16 k16 fun _ _ _ _ _ _ us hl => match us, hl with | [_], _ => rfl
  refine ⟨PySem.W.fnOf "law" "law" (defArgs st_law) (defBody st_law) (defScope st_law) .none kV17 dc17 pm17 an17 cd17 ct17, fun s v => .of_eq rfl, fun base _ _ => ?_⟩
  have D_is_number : Def l.prog w K mg base CX0 1 "is_number" ["thing"] (sp_is_number K) := d_is_number G p0 
  have D_check_row : Def l.prog w K mg base CX0 2 "check_row" ["row"] (sp_check_row K) := d_check_row G p1 D_is_number
  have D_left_for : Def l.prog w K mg base CX0 1 "left_for" ["row", "place"] (sp_left_for K) := d_left_for G p2 
  have D_first_wrong : Def l.prog w K mg base CX0 2 "first_wrong" ["row"] (sp_first_wrong K) := d_first_wrong G p3 D_left_for
  have D_check_counts : Def l.prog w K mg base CX0 3 "check_counts" ["row"] (sp_check_counts K) := d_check_counts G p4 D_check_row D_first_wrong
  have D_shape_of : Def l.prog w K mg base CX0 4 "shape_of" ["row"] (sp_shape_of K) := d_shape_of G p5 D_check_counts
  have D_check_shape : Def l.prog w K mg base CX0 2 "check_shape" ["shape"] (sp_check_shape K) := d_check_shape G p6 D_is_number
  have D_of_shape : Def l.prog w K mg base CX0 3 "of_shape" ["shape"] (sp_of_shape K) := d_of_shape G p7 D_check_shape
  have D_L_cell_at : Def l.prog w K mg base CX0 1 "_law_cell_at" ["_law_script", "_law_k"] (sp_L_cell_at K) := d_L_cell_at G p8 
  have D_L_draw : Def l.prog w K mg base CX0 1 "_law_draw" ["_law_cell", "_law_k", "_law_most"] (sp_L_draw K) := d_L_draw G p9 
  have D_L_number : Def l.prog w K mg base CX0 2 "_law_number" ["_law_cell", "_law_k", "_law_limit"] (sp_L_number K) := d_L_number G p10 D_L_draw
  have D_L_rows : Def l.prog w K mg base CX0 1 "_law_rows" ["_law_length"] (sp_L_rows K) := d_L_rows G p11 
  have D_L_whole : Def l.prog w K mg base CX0 1 "_law_whole" ["_law_found"] (sp_L_whole K) := d_L_whole G p12 
  have D_L_is_row : Def l.prog w K mg base CX0 2 "_law_is_row" ["_law_found"] (sp_L_is_row K) := d_L_is_row G p13 D_L_whole
  have D_L_shape : Def l.prog w K mg base CX0 3 "_law_shape" ["_law_script", "_law_by"] (sp_L_shape K) := d_L_shape G p14 D_L_number D_L_cell_at
  have D_L_turned : Def l.prog w K mg base CX0 1 "_law_turned" ["_law_shape_here"] (sp_L_turned K) := d_L_turned G p15 
  have D_L_less : Def l.prog w K mg base CX0 1 "_law_less" ["_law_shape_here"] (sp_L_less K) := d_L_less G p16 
  exact d_law G (fun_mk (st := st_law) l17 c17 k17) D_L_rows D_shape_of D_L_number D_L_shape D_L_cell_at D_of_shape D_L_is_row D_L_whole D_L_turned D_L_less
end Oa
open PySem PySem.W PyProof.Rows
set_option maxHeartbeats 0 in
theorem PySem.Challenge.cw_oftenahead_k05_whole_shapes_holds : PySem.Challenge.rw_oftenahead_k05_whole_shapes.Holds := by
  w_on; o_law; k_head; (case hw => w_witness2)
  k_fill
  refine L2.walk_ofB (l := PySem.Challenge.rw_oftenahead_k05_whole_shapes) (n := 63) (k := 5) (x := "_law_script") (CX := fun _ => L2.CX0) (sp := fun w => Oa.sp_law _) rfl (by decide) rfl ⟨rfl, by decide, by decide⟩ (fun w h Y => PySem.W.kIn_of Y) ?F (fun _ _ a ns hl hb _ hS => ⟨a, ns, rfl, hS, hl, hb, fun _ => rfl⟩) (fun _ _ _ _ _ h => h)
  case F =>
    intro w mg fa h KX G hmg
    refine' Oa.all_mk KX G hmg ?a0 ?l0 ?c0 ?k0 ?a1 ?l1 ?c1 ?k1 ?a2 ?l2 ?c2 ?k2 ?a3 ?l3 ?c3 ?k3 ?a4 ?l4 ?c4 ?k4 ?a5 ?l5 ?c5 ?k5 ?a6 ?l6 ?c6 ?k6 ?a7 ?l7 ?c7 ?k7 ?a8 ?l8 ?c8 ?k8 ?a9 ?l9 ?c9 ?k9 ?a10 ?l10 ?c10 ?k10 ?a11 ?l11 ?c11 ?k11 ?a12 ?l12 ?c12 ?k12 ?a13 ?l13 ?c13 ?k13 ?a14 ?l14 ?c14 ?k14 ?a15 ?l15 ?c15 ?k15 ?a16 ?l16 ?c16 ?k16 ?a17 ?l17 ?c17 ?k17 ?z0 ?z1 ?z2 ?z3 ?z4 ?z5 ?z6 ?z7 ?z8 ?z9 ?z10 ?z11 ?z12 ?z13 ?z14 ?w0
    (case a0 => k_is); (case l0 => k_is); (case c0 => k_is); (case k0 => k_is); (case a1 => k_is); (case l1 => k_is); (case c1 => k_is); (case k1 => k_is); (case a2 => k_is); (case l2 => k_is); (case c2 => k_is); (case k2 => k_is); (case a3 => k_is); (case l3 => k_is); (case c3 => k_is); (case k3 => k_is); (case a4 => k_is); (case l4 => k_is); (case c4 => k_is); (case k4 => k_is); (case a5 => k_is); (case l5 => k_is); (case c5 => k_is); (case k5 => k_is); (case a6 => k_is); (case l6 => k_is); (case c6 => k_is); (case k6 => k_is); (case a7 => k_is); (case l7 => k_is); (case c7 => k_is); (case k7 => k_is); (case a8 => k_is); (case l8 => k_is); (case c8 => k_is); (case k8 => k_is); (case a9 => k_is); (case l9 => k_is); (case c9 => k_is); (case k9 => k_is); (case a10 => k_is); (case l10 => k_is); (case c10 => k_is); (case k10 => k_is); (case a11 => k_is); (case l11 => k_is); (case c11 => k_is); (case k11 => k_is); (case a12 => k_is); (case l12 => k_is); (case c12 => k_is); (case k12 => k_is); (case a13 => k_is); (case l13 => k_is); (case c13 => k_is); (case k13 => k_is); (case a14 => k_is); (case l14 => k_is); (case c14 => k_is); (case k14 => k_is); (case a15 => k_is); (case l15 => k_is); (case c15 => k_is); (case k15 => k_is); (case a16 => k_is); (case l16 => k_is); (case c16 => k_is); (case k16 => k_is); (case a17 => k_is); (case l17 => k_is); (case c17 => k_is); (case k17 => k_is); (case z0 => k_is); (case z1 => k_is); (case z2 => k_is); (case z3 => k_is); (case z4 => k_is); (case z5 => k_is); (case z6 => k_is); (case z7 => k_is); (case z8 => k_is); (case z9 => k_is); (case z10 => k_is); (case z11 => k_is); (case z12 => k_is); (case z13 => k_is); (case z14 => k_is); (case w0 => k_is)
