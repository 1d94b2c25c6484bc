import PyProof.Rows.All
import HandS.ForMost
import HandS.IsInst
import HandS.SetFor
import HandS.SetKeys
import HandS.Evl
import HandS.Wide
import HandS.EndBits
import HandS.Zip
import HandS.Deep
import HandS.Style
import HandS.SortInts
import HandS.Conv
import PyProof.ReprRoads
import KE.SortData
import PyProof.ReprBulk
import KE.KDictKeyed
import KE.KeyNested
import HandS.TupAny
import HandS.Sort
import KE.KDictSum
import PyProof.Transfer
import HandS.Lambda
import HandS.EndTab
import HandS.CallSlots
import HandS.WordsExc
import HandS.ExcOwn
import HandS.ExcIs
import HandS.TryOnly
import HandS.EndOwn
import PySem.Challenge.RW_oftenahead_k08_whole_anew
set_option Elab.async false
set_option linter.all false
set_option maxRecDepth 100000
set_option maxHeartbeats 4000000
/-! plain mathematics of the program: no Python here -/
namespace Oa

/-! ### the law's draws -/
def cellAt (ns : List Int) (k : Nat) : Int := ns.getD k 0
def primes : List Int := [1000003, 1000033, 1000037, 1000039, 1000081, 1000099, 1000117, 1000121, 1000133, 1000151, 1000159, 1000171, 1000183, 1000187, 1000193, 1000199]
def drawF (c : Int) (k : Nat) (most : Int) : Int := (c * 48271 + (k : Int) * 69621) % (primes.getD (k % 16) 1) % most
def divs : List Int := [1, 7, 49, 343, 2401]
def numF (c : Int) (k : Nat) (lim : Int) : Int :=
  if 10 ^ 18 ≤ c then (c - 10 ^ 18) / (divs.getD (k % 5) 1) % lim
  else drawF ((c + 977 * (k : Int)) * (c + 31 * (k : Int) + 5)) (k % 9 + 1) 999983 % lim
theorem numF_nn (c : Int) (k : Nat) {lim : Int} (h : 0 < lim) : 0 ≤ numF c k lim := by
  unfold numF; split <;> exact Int.emod_nonneg _ (by omega)
theorem numF_lt (c : Int) (k : Nat) {lim : Int} (h : 0 < lim) : numF c k lim < lim := by
  unfold numF; split <;> exact Int.emod_lt_of_pos _ h
def signL : List Int := [5, -3, 0, 10 ^ 20, 7, -1, 12, 40]
def signsF (ns : List Int) (b : Nat) (most many : Int) : List Int :=
  (List.range (numF (cellAt ns b) b (most + 1)).toNat).map fun k => signL.getD (numF (cellAt ns (b + k + 1) + 31 * (k : Int)) (k + b + 2) many).toNat 0
theorem signsF_len (ns : List Int) (b : Nat) (most many : Int) (h : 0 ≤ most) : ((signsF ns b most many).length : Int) ≤ most := by
  unfold signsF
  rw [List.length_map, List.length_range]
  have h1 := numF_nn (cellAt ns b) b (lim := most + 1) (by omega)
  have h2 := numF_lt (cellAt ns b) b (lim := most + 1) (by omega)
  omega

/-! ### lists -/
theorem map_getD {α : Type} (f : Int → α) (l : List Int) : (List.range l.length).map (fun i => f (l.getD i 0)) = l.map f := by
  apply List.ext_getElem?
  intro i
  rw [List.getElem?_map, List.getElem?_map]
  by_cases hi : i < l.length
  · rw [List.getElem?_range hi, List.getElem?_eq_getElem hi, Option.map_some, Option.map_some, List.getD_eq_getElem?_getD, List.getElem?_eq_getElem hi]
    rfl
  · rw [List.getElem?_eq_none (by rw [List.length_range]; omega), List.getElem?_eq_none (by omega)]
    rfl
/-! ### counts and patterns -/
/-- for each place how often its sign stands ahead -/
def countsF (row : List Int) : List Int := (List.range row.length).map fun i => ((row.take i).count (row.getD i 0) : Int)
theorem countsF_len (row : List Int) : (countsF row).length = row.length := by unfold countsF; rw [List.length_map, List.length_range]
theorem countsF_get {row : List Int} {i : Nat} (h : i < row.length) : (countsF row)[i]? = some ((row.take i).count (row.getD i 0) : Int) := by
  unfold countsF; rw [List.getElem?_map, List.getElem?_range h]; rfl
theorem countsF_snoc (row : List Int) (s : Int) : countsF (row ++ [s]) = countsF row ++ [((row.count s : Nat) : Int)] := by
  unfold countsF
  rw [List.length_append, List.length_singleton, List.range_succ, List.map_append]
  congr 1
  · apply List.map_congr_left
    intro i hi
    have hi' : i < row.length := List.mem_range.mp hi
    rw [List.take_append_of_le_length (by omega)]
    congr 2
    rw [List.getD_eq_getElem?_getD, List.getD_eq_getElem?_getD, List.getElem?_append_left hi']
  · simp
/-- the signs as they are first met -/
def firsts : List Int → List Int → List Int
  | acc, [] => acc
  | acc, s :: r => firsts (if s ∈ acc then acc else acc ++ [s]) r
theorem firsts_snoc (acc row : List Int) (s : Int) : firsts acc (row ++ [s]) = if s ∈ firsts acc row then firsts acc row else firsts acc row ++ [s] := by
  induction row generalizing acc with
  | nil => rfl
  | cons a r ih => show firsts _ (r ++ [s]) = _; rw [ih]; rfl
theorem firsts_pre (acc row : List Int) : ∃ more, firsts acc row = acc ++ more := by
  induction row generalizing acc with
  | nil => exact ⟨[], by simp [firsts]⟩
  | cons a r ih =>
    obtain ⟨m, e⟩ := ih (if a ∈ acc then acc else acc ++ [a])
    show ∃ more, firsts _ r = _
    rw [e]
    split
    · exact ⟨m, rfl⟩
    · exact ⟨[a] ++ m, by rw [List.append_assoc]⟩
theorem firsts_mem (acc row : List Int) (s : Int) : s ∈ firsts acc row ↔ s ∈ acc ∨ s ∈ row := by
  induction row generalizing acc with
  | nil => simp [firsts]
  | cons a r ih =>
    show s ∈ firsts _ r ↔ _
    rw [ih]
    split
    · rename_i h
      constructor
      · rintro (h1 | h1)
        · exact .inl h1
        · exact .inr (List.mem_cons_of_mem _ h1)
      · rintro (h1 | h1)
        · exact .inl h1
        · rcases List.mem_cons.mp h1 with e | e
          · subst e; exact .inl h
          · exact .inr e
    · simp only [List.mem_append, List.mem_cons, List.not_mem_nil, or_false]
      constructor
      · rintro ((h1 | h1) | h1)
        · exact .inl h1
        · exact .inr (.inl h1)
        · exact .inr (.inr h1)
      · rintro (h1 | h1 | h1)
        · exact .inl (.inl h1)
        · exact .inl (.inr h1)
        · exact .inr h1
theorem firsts_nodup (acc row : List Int) (h : acc.Nodup) : (firsts acc row).Nodup := by
  induction row generalizing acc with
  | nil => exact h
  | cons a r ih =>
    show (firsts _ r).Nodup
    apply ih
    split
    · exact h
    · rename_i hn
      rw [List.nodup_append]
      refine ⟨h, by simp, fun x hx y hy => ?_⟩
      rw [List.mem_singleton] at hy
      subst hy
      intro e
      subst e
      exact hn hx
theorem firsts_len (acc row : List Int) : (firsts acc row).length ≤ acc.length + row.length := by
  induction row generalizing acc with
  | nil => exact Nat.le_refl _
  | cons a r ih =>
    show (firsts _ r).length ≤ _
    refine Nat.le_trans (ih _) ?_
    split
    · rw [List.length_cons]; omega
    · rw [List.length_append, List.length_singleton, List.length_cons]; omega
def patternF (row : List Int) : List Int := row.map fun s => (((firsts [] row).idxOf s : Nat) : Int)
theorem patternF_len (row : List Int) : (patternF row).length = row.length := by unfold patternF; rw [List.length_map]
theorem idx_app {l m : List Int} {s : Int} (h : s ∈ l) : (l ++ m).idxOf s = l.idxOf s := by
  induction l with
  | nil => cases h
  | cons a r ih =>
    rw [List.cons_append, List.idxOf_cons, List.idxOf_cons]
    by_cases e : (a == s) = true
    · rw [e]; rfl
    · have e' : (a == s) = false := by simpa using e
      rw [e']
      have hm : s ∈ r := by
        rcases List.mem_cons.mp h with q | q
        · subst q; simp at e
        · exact q
      show (r ++ m).idxOf s + 1 = r.idxOf s + 1
      rw [ih hm]
theorem idx_inj {l : List Int} {s t : Int} (hs : s ∈ l) (e : l.idxOf s = l.idxOf t) : s = t := by
  induction l with
  | nil => cases hs
  | cons a r ih =>
    rw [List.idxOf_cons, List.idxOf_cons] at e
    by_cases h1 : a = s
    · subst h1
      by_cases h2 : a = t
      · exact h2
      · have q : (a == t) = false := by simpa using h2
        rw [q] at e
        simp at e
    · have q1 : (a == s) = false := by simpa using h1
      by_cases h2 : a = t
      · subst h2
        rw [q1] at e
        simp at e
      · have q2 : (a == t) = false := by simpa using h2
        rw [q1, q2] at e
        have e' : r.idxOf s = r.idxOf t := by simpa using e
        refine ih ?_ e'
        rcases List.mem_cons.mp hs with z | z
        · exact absurd z.symm h1
        · exact z
theorem patternF_snoc (row : List Int) (s : Int) : patternF (row ++ [s]) = patternF row ++ [(((firsts [] (row ++ [s])).idxOf s : Nat) : Int)] := by
  unfold patternF
  rw [List.map_append]
  congr 1
  apply List.map_congr_left
  intro x hx
  congr 1
  rw [firsts_snoc]
  split
  · rfl
  · exact idx_app ((firsts_mem [] row x).mpr (.inr hx))
theorem count_map_inj (f : Int → Int) (l : List Int) (s : Int) (h : ∀ x ∈ l, f x = f s → x = s) : (l.map f).count (f s) = l.count s := by
  induction l with
  | nil => rfl
  | cons a r ih =>
    rw [List.map_cons, List.count_cons, List.count_cons, ih fun x hx => h x (List.mem_cons_of_mem _ hx)]
    congr 1
    by_cases e : a = s
    · subst e; simp
    · have e2 : ¬ f a = f s := fun q => e (h a (List.mem_cons_self ..) q)
      rw [beq_eq_false_iff_ne.mpr e, beq_eq_false_iff_ne.mpr e2]
theorem countsF_map (f : Int → Int) (row : List Int) (h : ∀ x ∈ row, ∀ y ∈ row, f x = f y → x = y) : countsF (row.map f) = countsF row := by
  unfold countsF
  rw [List.length_map]
  apply List.map_congr_left
  intro i hi
  have hi' : i < row.length := List.mem_range.mp hi
  congr 1
  have e1 : (row.map f).getD i 0 = f (row.getD i 0) := by
    rw [List.getD_eq_getElem?_getD, List.getD_eq_getElem?_getD, List.getElem?_map, List.getElem?_eq_getElem hi']; rfl
  have hm : row.getD i 0 ∈ row := by
    rw [List.getD_eq_getElem?_getD, List.getElem?_eq_getElem hi']; exact List.getElem_mem hi'
  rw [e1, ← List.map_take]
  exact count_map_inj f _ _ fun x hx q => h x (List.mem_of_mem_take hx) _ hm q
theorem counts_pattern (row : List Int) : countsF (patternF row) = countsF row := by
  apply countsF_map
  intro x hx y hy e
  have e' : (firsts [] row).idxOf x = (firsts [] row).idxOf y := by omega
  exact idx_inj ((firsts_mem [] row x).mpr (.inr hx)) e'
/-! ### a row with one number changed -/
def bentL : List Int := [0, 1, 2, -1, 10 ^ 20]
def bentAt (ns row : List Int) (b : Nat) : Nat := (numF (cellAt ns b) (b + 1) (if (row.length : Int) > 1 then (row.length : Int) else 1)).toNat
def bentF (ns row : List Int) (b : Nat) : List Int := row.take (bentAt ns row b) ++ [bentL.getD (numF (cellAt ns b) (b + 2) 5).toNat 0] ++ row.drop (bentAt ns row b + 1)
theorem bentAt_lt (ns row : List Int) (b : Nat) : bentAt ns row b < max 1 row.length := by
  unfold bentAt
  have h1 := numF_nn (cellAt ns b) (b + 1) (lim := if (row.length : Int) > 1 then (row.length : Int) else 1) (by split <;> omega)
  have h2 := numF_lt (cellAt ns b) (b + 1) (lim := if (row.length : Int) > 1 then (row.length : Int) else 1) (by split <;> omega)
  have h3 : (if (row.length : Int) > 1 then (row.length : Int) else 1) = ((max 1 row.length : Nat) : Int) := by split <;> omega
  rw [h3] at h1 h2
  rw [h3]
  omega
theorem bentF_len (ns row : List Int) (b : Nat) : (bentF ns row b).length ≤ max 1 row.length := by
  have h := bentAt_lt ns row b
  unfold bentF
  rw [List.length_append, List.length_append, List.length_take, List.length_drop, List.length_singleton]
  omega
end Oa
/-! which rows are counts, and of which patterns -/
namespace Oa
theorem snoc_ind {P : List Int → Prop} (h0 : P []) (hs : ∀ l x, P l → P (l ++ [x])) : ∀ l, P l := by
  intro l
  have h : ∀ r : List Int, P r.reverse := by
    intro r
    induction r with
    | nil => exact h0
    | cons a r ih => rw [List.reverse_cons]; exact hs _ _ ih
  have := h l.reverse
  rw [List.reverse_reverse] at this
  exact this
theorem filt_change {F : List Int} (nd : F.Nodup) {s : Int} (hs : s ∈ F) (P P' : Int → Bool) (h : ∀ x, x ≠ s → P x = P' x) :
    (F.filter P').length + (if P s = true then 1 else 0) = (F.filter P).length + (if P' s = true then 1 else 0) := by
  induction F with
  | nil => cases hs
  | cons a r ih =>
    obtain ⟨h1, h2⟩ := List.nodup_cons.mp nd
    by_cases e : a = s
    · subst e
      have er : r.filter P' = r.filter P := List.filter_congr fun x hx => (h x fun q => h1 (q ▸ hx)).symm
      rw [List.filter_cons, List.filter_cons, er]
      by_cases p1 : P a = true <;> by_cases p2 : P' a = true <;> simp [p1, p2] <;> omega
    · have hr : s ∈ r := by
        rcases List.mem_cons.mp hs with q | q
        · exact absurd q.symm e
        · exact q
      have := ih h2 hr
      rw [List.filter_cons, List.filter_cons, h a e]
      by_cases p2 : P' a = true
      · simp only [p2, if_true, List.length_cons]; omega
      · have p3 : P' a = false := by simpa using p2
        simp only [p3]; exact this
theorem filt_split (F : List Int) (P Q : Int → Bool) : (F.filter P).length = (F.filter fun x => P x && Q x).length + (F.filter fun x => P x && !Q x).length := by
  induction F with
  | nil => rfl
  | cons a r ih =>
    rw [List.filter_cons, List.filter_cons, List.filter_cons]
    by_cases p1 : P a = true <;> by_cases p2 : Q a = true <;> simp [p1, p2] <;> omega
/-- how many signs stand more than t times -/
def moreThan (p : List Int) (t : Nat) : Nat := ((firsts [] p).filter fun s => decide (t < p.count s)).length
theorem count_counts (p : List Int) : ∀ t : Nat, (countsF p).count (t : Int) = moreThan p t := by
  refine snoc_ind (P := fun p => ∀ t : Nat, (countsF p).count (t : Int) = moreThan p t) (fun t => rfl) (fun p s ih t => ?_) p
  rw [countsF_snoc, List.count_append, ih t, List.count_singleton]
  have hc : ∀ x, (p ++ [s]).count x = p.count x + (if x = s then 1 else 0) := fun x => by
    rw [List.count_append, List.count_singleton]
    by_cases e : x = s
    · subst e; simp
    · have : (s == x) = false := by simpa using fun q => e q.symm
      simp [e, this]
  unfold moreThan
  rw [firsts_snoc]
  by_cases hs : s ∈ firsts [] p
  · rw [if_pos hs]
    have h := filt_change (firsts_nodup [] p List.nodup_nil) hs (fun x => decide (t < p.count x)) (fun x => decide (t < (p ++ [s]).count x)) (fun x hx => by rw [hc x, if_neg hx, Nat.add_zero])
    simp only [hc s, if_true, decide_eq_true_eq] at h
    have e1 : (((p.count s : Nat) : Int) == (t : Int)) = decide (p.count s = t) := by
      by_cases e : p.count s = t
      · subst e; simp
      · have e2 : ¬ ((p.count s : Nat) : Int) = (t : Int) := by omega
        simp [e, e2]
    rw [e1]
    by_cases e : p.count s = t
    · subst e
      simp at h ⊢
      omega
    · by_cases e3 : t < p.count s
      · have : t < p.count s + 1 := by omega
        simp [e, e3, this] at h ⊢
        omega
      · have : ¬ t < p.count s + 1 := by omega
        simp [e, e3, this] at h ⊢
        omega
  · rw [if_neg hs, List.filter_append, List.length_append]
    have hn : s ∉ p := fun q => hs ((firsts_mem [] p s).mpr (.inr q))
    have hz : p.count s = 0 := List.count_eq_zero.mpr hn
    have e1 : (firsts [] p).filter (fun x => decide (t < (p ++ [s]).count x)) = (firsts [] p).filter (fun x => decide (t < p.count x)) := List.filter_congr fun x hx => by
      rw [hc x, if_neg (fun (q : x = s) => hs (q ▸ hx)), Nat.add_zero]
    rw [e1, hz]
    congr 1
    rw [List.filter_cons, List.filter_nil, hc s, hz, if_pos rfl]
    by_cases e : t = 0
    · subst e; rfl
    · have e2 : ¬ ((0 : Nat) : Int) = (t : Int) := by omega
      have e3 : ¬ t < 0 + 1 := by omega
      have e4 : ((((0 : Nat) : Int) == (t : Int))) = false := by simpa using e2
      rw [e4]
      simp [e3]
/-- the signs that stand just t times -/
def justF (p : List Int) (t : Int) : List Int := (firsts [] p).filter fun s => decide (((p.count s : Nat) : Int) = t)
theorem just_len (p : List Int) (t : Nat) : (justF p ((t : Int) + 1)).length + (countsF p).count ((t : Int) + 1) = (countsF p).count (t : Int) := by
  have e : ((t : Int) + 1) = ((t + 1 : Nat) : Int) := by omega
  rw [e, count_counts, count_counts]
  unfold justF moreThan
  have h := filt_split (firsts [] p) (fun s => decide (t < p.count s)) (fun s => decide (t + 1 < p.count s))
  have h1 : (firsts [] p).filter (fun x => decide (t < p.count x) && decide (t + 1 < p.count x)) = (firsts [] p).filter (fun s => decide (t + 1 < p.count s)) := List.filter_congr fun x _ => by
    by_cases a : t + 1 < p.count x
    · have : t < p.count x := by omega
      simp [a, this]
    · simp [a]
  have h2 : (firsts [] p).filter (fun x => decide (t < p.count x) && !decide (t + 1 < p.count x)) = (firsts [] p).filter (fun s => decide (((p.count s : Nat) : Int) = ((t + 1 : Nat) : Int))) := List.filter_congr fun x _ => by
    by_cases a : p.count x = t + 1
    · have h3 : t < p.count x := by omega
      have h4 : ¬ t + 1 < p.count x := by omega
      simp [a]
    · have h5 : ¬ ((p.count x : Nat) : Int) = ((t + 1 : Nat) : Int) := by omega
      by_cases b : t < p.count x
      · have h6 : t + 1 < p.count x := by omega
        rw [decide_eq_false h5, decide_eq_true h6]; simp
      · rw [decide_eq_false h5, decide_eq_false b]; simp
  rw [h1, h2] at h
  omega

/-! ### what is left for a place -/
def leftF (row : List Int) (i : Nat) : Int :=
  if row.getD i 0 ≤ 0 then (if row.getD i 0 = 0 then 1 else 0) else (((row.take i).count (row.getD i 0 - 1) : Nat) : Int) - (((row.take i).count (row.getD i 0) : Nat) : Int)
def Good (row : List Int) : Prop := ∀ i, i < row.length → 1 ≤ leftF row i
theorem left_just {p row : List Int} {i : Nat} (h : countsF p = row.take i) (ht : 0 < row.getD i 0) : ((justF p (row.getD i 0)).length : Int) = leftF row i := by
  unfold leftF
  rw [if_neg (by omega), ← h]
  obtain ⟨t, et⟩ : ∃ t : Nat, row.getD i 0 = (t : Int) + 1 := ⟨(row.getD i 0 - 1).toNat, by omega⟩
  rw [et]
  have := just_len p t
  rw [show (t : Int) + 1 - 1 = (t : Int) by omega]
  omega
/-- counts are good -/
theorem good_counts (p : List Int) : Good (countsF p) := by
  intro i hi
  rw [countsF_len] at hi
  have hg : (countsF p).getD i 0 = (((p.take i).count (p.getD i 0) : Nat) : Int) := by
    rw [List.getD_eq_getElem?_getD, countsF_get hi]; rfl
  have ht : countsF (p.take i) = (countsF p).take i := by
    unfold countsF
    rw [List.length_take, ← List.map_take, List.take_range, Nat.min_eq_left (by omega)]
    apply List.map_congr_left
    intro j hj
    have hj' : j < i := by have := List.mem_range.mp hj; omega
    rw [List.take_take, Nat.min_eq_left (by omega)]
    congr 2
    rw [List.getD_eq_getElem?_getD, List.getD_eq_getElem?_getD, List.getElem?_take_of_lt hj']
  by_cases h0 : (countsF p).getD i 0 ≤ 0
  · unfold leftF
    rw [if_pos h0, if_pos (by omega)]
    exact Int.le_refl 1
  · rw [← left_just ht (by omega), hg]
    have hm : p.getD i 0 ∈ justF (p.take i) (((p.take i).count (p.getD i 0) : Nat) : Int) := by
      unfold justF
      refine List.mem_filter.mpr ⟨(firsts_mem [] _ _).mpr (.inr ?_), by simp⟩
      rw [hg] at h0
      exact List.count_pos_iff.mp (by omega)
    have := List.length_pos_of_mem hm
    omega

/-! ### patterns -/
def knownF (p : List Int) : Nat := (firsts [] p).length
def IsPat (p : List Int) : Prop := firsts [] p = (List.range (knownF p)).map fun i : Nat => (i : Int)
theorem isPat_nil : IsPat [] := rfl
theorem IsPat.mem {p : List Int} (h : IsPat p) (s : Int) : s ∈ firsts [] p ↔ 0 ≤ s ∧ s < (knownF p : Int) := by
  rw [h, List.mem_map]
  constructor
  · rintro ⟨i, hi, rfl⟩
    have := List.mem_range.mp hi
    omega
  · rintro ⟨h1, h2⟩
    exact ⟨s.toNat, List.mem_range.mpr (by omega), by omega⟩
theorem IsPat.fresh {p : List Int} (h : IsPat p) : (knownF p : Int) ∉ firsts [] p := fun q => by
  have := (h.mem _).mp q
  omega
theorem IsPat.snoc {p : List Int} (h : IsPat p) {s : Int} (hs : s ∈ firsts [] p ∨ s = (knownF p : Int)) : IsPat (p ++ [s]) ∧ knownF (p ++ [s]) = if s = (knownF p : Int) then knownF p + 1 else knownF p := by
  by_cases hm : s ∈ firsts [] p
  · have hne : s ≠ (knownF p : Int) := fun q => h.fresh (q ▸ hm)
    have e : firsts [] (p ++ [s]) = firsts [] p := by rw [firsts_snoc, if_pos hm]
    have ek : knownF (p ++ [s]) = knownF p := by unfold knownF; rw [e]
    refine ⟨?_, by rw [if_neg hne, ek]⟩
    unfold IsPat
    rw [e, ek]
    exact h
  · have hk : s = (knownF p : Int) := hs.resolve_left hm
    have e : firsts [] (p ++ [s]) = firsts [] p ++ [s] := by rw [firsts_snoc, if_neg hm]
    have ek : knownF (p ++ [s]) = knownF p + 1 := by unfold knownF; rw [e, List.length_append]; rfl
    refine ⟨?_, by rw [if_pos hk, ek]⟩
    unfold IsPat
    rw [e, ek, List.range_succ, List.map_append, hk]
    unfold IsPat at h
    rw [← h]
    rfl
/-- the signs that can stand at a place with the number t -/
def someF (p : List Int) (t : Int) : List Int := if 0 < t then justF p t else [(knownF p : Int)]
theorem some_prog {p : List Int} (h : IsPat p) (t : Int) : someF p t = if 0 < t then ((List.range (knownF p)).map fun i : Nat => (i : Int)).filter (fun s => decide (((p.count s : Nat) : Int) = t)) else [(knownF p : Int)] := by
  unfold someF justF
  rw [← h]
theorem some_len {p row : List Int} {i : Nat} (h : countsF p = row.take i) (ht : 1 ≤ leftF row i) : ((someF p (row.getD i 0)).length : Int) = leftF row i := by
  unfold someF
  by_cases h0 : 0 < row.getD i 0
  · rw [if_pos h0, left_just h h0]
  · rw [if_neg h0]
    unfold leftF at ht ⊢
    rw [if_pos (by omega)] at ht ⊢
    by_cases e : row.getD i 0 = 0
    · rw [if_pos e]; rfl
    · rw [if_neg e] at ht; omega
theorem left_nn {row : List Int} {i : Nat} (ht : 1 ≤ leftF row i) : 0 ≤ row.getD i 0 := by
  unfold leftF at ht
  by_cases h0 : row.getD i 0 ≤ 0
  · rw [if_pos h0] at ht
    by_cases e : row.getD i 0 = 0
    · omega
    · rw [if_neg e] at ht; omega
  · omega
theorem some_mem {p : List Int} (h : IsPat p) {t s : Int} (h0 : 0 ≤ t) (hs : s ∈ someF p t) : ((p.count s : Nat) : Int) = t ∧ (s ∈ firsts [] p ∨ s = (knownF p : Int)) := by
  unfold someF at hs
  by_cases ht : 0 < t
  · rw [if_pos ht] at hs
    obtain ⟨h1, h2⟩ := List.mem_filter.mp hs
    exact ⟨of_decide_eq_true h2, .inl h1⟩
  · rw [if_neg ht] at hs
    have e := List.mem_singleton.mp hs
    refine ⟨?_, .inr e⟩
    have hn : s ∉ p := fun q => h.fresh (e ▸ (firsts_mem [] p s).mpr (.inr q))
    rw [List.count_eq_zero.mpr hn]
    omega
theorem some_iff {p : List Int} (h : IsPat p) {t s : Int} (h0 : 0 ≤ t) (hc : ((p.count s : Nat) : Int) = t) (hs : s ∈ firsts [] p ∨ s = (knownF p : Int)) : s ∈ someF p t := by
  unfold someF
  by_cases ht : 0 < t
  · rw [if_pos ht]
    refine List.mem_filter.mpr ⟨(firsts_mem [] p s).mpr (.inr (List.count_pos_iff.mp (by omega))), decide_eq_true hc⟩
  · rw [if_neg ht]
    refine List.mem_singleton.mpr (hs.resolve_left fun q => ?_)
    have hp : s ∈ p := ((firsts_mem [] p s).mp q).resolve_left (by simp)
    have := List.count_pos_iff.mpr hp
    omega

/-! ### the pattern of a number -/
def prodFrom (row : List Int) : Nat → Nat → Int
  | _, 0 => 1
  | i, n + 1 => leftF row i * prodFrom row (i + 1) n
def manyF (row : List Int) : Int := prodFrom row 0 row.length
theorem prodFrom_pos {row : List Int} (hg : Good row) : ∀ (n i : Nat), i + n ≤ row.length → 0 < prodFrom row i n
  | 0, _, _ => by show (0 : Int) < 1; decide
  | n + 1, i, h => Int.mul_pos (by have := hg i (by omega); omega) (prodFrom_pos hg n (i + 1) (by omega))
theorem prodFrom_snoc (row : List Int) : ∀ (n i : Nat), prodFrom row i (n + 1) = prodFrom row i n * leftF row (i + n)
  | 0, i => by simp [prodFrom]
  | n + 1, i => by
    show leftF row i * prodFrom row (i + 1) (n + 1) = leftF row i * prodFrom row (i + 1) n * leftF row (i + (n + 1))
    rw [prodFrom_snoc row n (i + 1), Int.mul_assoc, show i + 1 + n = i + (n + 1) by omega]
def patGo (found : List Int) : List Int → Int → Int → List Int
  | [], _, _ => found
  | t :: r, many, number => patGo (found ++ [(someF found t).getD (number / (many / ((someF found t).length : Int))).toNat 0]) r (many / ((someF found t).length : Int)) (number % (many / ((someF found t).length : Int)))
def patF (row : List Int) (number : Int) : List Int := patGo [] row (manyF row) number
/-- one turn of pattern_of -/
theorem pat_turn {row found : List Int} {i n : Nat} (hg : Good row) (hp : IsPat found) (hc : countsF found = row.take i) (hn : i + (n + 1) = row.length) {number : Int} (h0 : 0 ≤ number) (h1 : number < prodFrom row i (n + 1)) :
    prodFrom row i (n + 1) / ((someF found (row.getD i 0)).length : Int) = prodFrom row (i + 1) n ∧ 0 ≤ number / prodFrom row (i + 1) n ∧ number / prodFrom row (i + 1) n < ((someF found (row.getD i 0)).length : Int) ∧ 0 < ((someF found (row.getD i 0)).length : Int) ∧ 0 < prodFrom row (i + 1) n := by
  have hl := some_len hc (hg i (by omega))
  have hpos := prodFrom_pos hg n (i + 1) (by omega)
  have hlp : 0 < leftF row i := by have := hg i (by omega); omega
  refine ⟨?_, Int.ediv_nonneg h0 (by omega), ?_, by omega, hpos⟩
  · rw [hl]
    show leftF row i * prodFrom row (i + 1) n / leftF row i = _
    rw [Int.mul_ediv_cancel_left _ (by omega)]
  · rw [hl]
    refine Int.ediv_lt_of_lt_mul hpos ?_
    exact h1
theorem pat_next {row found : List Int} {i : Nat} (hg : Good row) (hp : IsPat found) (hc : countsF found = row.take i) (hi : i < row.length) {s : Int} (hs : s ∈ someF found (row.getD i 0)) :
    IsPat (found ++ [s]) ∧ countsF (found ++ [s]) = row.take (i + 1) := by
  obtain ⟨h1, h2⟩ := some_mem hp (left_nn (hg i hi)) hs
  refine ⟨(hp.snoc h2).1, ?_⟩
  rw [countsF_snoc, hc, h1, List.take_add_one]
  congr 1
  rw [List.getD_eq_getElem?_getD, List.getElem?_eq_getElem hi]
  rfl
theorem getD_mem {l : List Int} {k : Nat} (h : k < l.length) : l.getD k 0 ∈ l := by
  rw [List.getD_eq_getElem?_getD, List.getElem?_eq_getElem h]
  exact List.getElem_mem h
theorem patGo_ok {row : List Int} (hg : Good row) : ∀ (n i : Nat) (found : List Int) (number : Int), i + n = row.length → IsPat found → countsF found = row.take i → 0 ≤ number → number < prodFrom row i n →
    IsPat (patGo found (row.drop i) (prodFrom row i n) number) ∧ countsF (patGo found (row.drop i) (prodFrom row i n) number) = row
  | 0, i, found, number, hn, hp, hc, h0, h1 => by
    rw [List.drop_of_length_le (by omega)]
    refine ⟨hp, ?_⟩
    show countsF found = row
    rw [hc, List.take_of_length_le (by omega)]
  | n + 1, i, found, number, hn, hp, hc, h0, h1 => by
    have hi : i < row.length := by omega
    have ed : row.drop i = row.getD i 0 :: row.drop (i + 1) := by
      rw [List.drop_eq_getElem_cons hi, List.getD_eq_getElem?_getD, List.getElem?_eq_getElem hi]
      rfl
    obtain ⟨a1, a2, a3, a4, a5⟩ := pat_turn hg hp hc hn h0 h1
    rw [ed]
    unfold patGo
    rw [a1]
    obtain ⟨b1, b2⟩ := pat_next hg hp hc hi (getD_mem (l := someF found (row.getD i 0)) (k := (number / prodFrom row (i + 1) n).toNat) (by omega))
    exact patGo_ok hg n (i + 1) _ _ (by omega) b1 b2 (Int.emod_nonneg _ (by omega)) (Int.emod_lt_of_pos _ a5)
theorem patF_ok {row : List Int} (hg : Good row) {number : Int} (h0 : 0 ≤ number) (h1 : number < manyF row) : IsPat (patF row number) ∧ countsF (patF row number) = row := by
  have := patGo_ok hg row.length 0 [] number (by omega) isPat_nil rfl h0 h1
  exact this
theorem manyF_pos {row : List Int} (hg : Good row) : 0 < manyF row := prodFrom_pos hg _ _ (by omega)

/-! ### the first wrong place -/
def firstWrongF (row : List Int) : Int := match (List.range row.length).find? (fun i => decide (leftF row i < 1)) with
  | some i => (i : Int)
  | none => -1
theorem firstWrong_good {row : List Int} : firstWrongF row = -1 ↔ Good row := by
  unfold firstWrongF
  cases e : (List.range row.length).find? (fun i => decide (leftF row i < 1)) with
  | none =>
    rw [List.find?_eq_none] at e
    refine ⟨fun _ i hi => ?_, fun _ => rfl⟩
    have := e i (List.mem_range.mpr hi)
    simp at this
    omega
  | some i =>
    have h1 := List.find?_some e
    have h2 := List.mem_range.mp (List.mem_of_find?_eq_some e)
    constructor
    · intro q
      have q' : (i : Int) = -1 := q
      omega
    · intro q
      have := q i h2
      simp at h1
      omega
theorem firstWrong_bad {row : List Int} (h : ¬ Good row) : ∃ i : Nat, firstWrongF row = (i : Int) ∧ i < row.length ∧ leftF row i < 1 := by
  unfold firstWrongF
  cases e : (List.range row.length).find? (fun i => decide (leftF row i < 1)) with
  | none =>
    refine absurd (firstWrong_good.mp ?_) h
    unfold firstWrongF
    rw [e]
  | some i => exact ⟨i, rfl, List.mem_range.mp (List.mem_of_find?_eq_some e), by simpa using List.find?_some e⟩
theorem firstWrong_at {row : List Int} {i : Nat} (hi : i < row.length) (h1 : ∀ j, j < i → 1 ≤ leftF row j) (h2 : leftF row i < 1) : firstWrongF row = (i : Int) := by
  unfold firstWrongF
  have e : (List.range row.length).find? (fun i => decide (leftF row i < 1)) = some i := by
    rw [List.find?_range_eq_some]
    refine ⟨decide_eq_true h2, List.mem_range.mpr hi, fun j hj => ?_⟩
    have := h1 j hj
    simp
    omega
  rw [e]
theorem leftF_bd (row : List Int) (i : Nat) : -(row.length : Int) - 1 ≤ leftF row i ∧ leftF row i ≤ (row.length : Int) + 1 := by
  unfold leftF
  have h1 := List.count_le_length (a := row.getD i 0 - 1) (l := row.take i)
  have h2 := List.count_le_length (a := row.getD i 0) (l := row.take i)
  rw [List.length_take] at h1 h2
  split
  · split <;> omega
  · omega
theorem prodFrom_le {row : List Int} (hg : Good row) (hl : row.length ≤ 20) : ∀ (n i : Nat), i + n ≤ row.length → prodFrom row i n ≤ 32 ^ n
  | 0, _, _ => by show (1 : Int) ≤ 1; decide
  | n + 1, i, h => by
    show leftF row i * prodFrom row (i + 1) n ≤ 32 ^ (n + 1)
    have a := (leftF_bd row i).2
    have b := hg i (by omega)
    have c := prodFrom_le hg hl n (i + 1) (by omega)
    have d := prodFrom_pos hg n (i + 1) (by omega)
    rw [Int.pow_succ, Int.mul_comm ((32 : Int) ^ n) 32]
    exact Int.mul_le_mul (by omega) c (by omega) (by omega)
theorem prodFrom_fit {row : List Int} (hg : Good row) (hl : row.length ≤ 20) {n i : Nat} (h : i + n ≤ row.length) : (prodFrom row i n).natAbs < 2 ^ 101 := by
  have a := prodFrom_le hg hl n i h
  have b := prodFrom_pos hg n i h
  have c : (32 : Int) ^ n ≤ 32 ^ 20 := by
    have : (32 : Nat) ^ n ≤ 32 ^ 20 := Nat.pow_le_pow_right (by decide) (by omega)
    exact_mod_cast this
  have d : (32 : Int) ^ 20 < 2 ^ 101 := by decide
  omega
/-- wrong, as the law says it -/
theorem wrong_iff (row : List Int) (i : Nat) : decide (leftF row i < 1) = (decide (row.getD i 0 < 0) || (decide (0 < row.getD i 0) && decide ((((row.take i).count (row.getD i 0 - 1) : Nat) : Int) ≤ (((row.take i).count (row.getD i 0) : Nat) : Int)))) := by
  unfold leftF
  by_cases h1 : row.getD i 0 < 0
  · rw [if_pos (by omega), if_neg (by omega), decide_eq_true h1]; rfl
  · by_cases h2 : row.getD i 0 = 0
    · rw [if_pos (by omega), if_pos h2, decide_eq_false h1, decide_eq_false (by omega : ¬ 0 < row.getD i 0)]; rfl
    · rw [if_neg (by omega), decide_eq_false h1, decide_eq_true (by omega : 0 < row.getD i 0)]
      simp only [Bool.false_or, Bool.true_and]
      congr 1
      apply propext
      omega
/-- what a Never shows -/
def neverB (ms : List Int) (i : Int) : Bool := decide (0 ≤ i) && decide (i < (ms.length : Int)) && decide (leftF ms i.toNat < 1)
end Oa
namespace Oa
open PySem PySem.Spec PyProof.Rows L2 Evl

/-! ### defs by their names -/
structure Def (P : Program) (w : World) (K : PySem.W.Frag) (mg : Str → Option Value) (base : Heap) (CX : CXT) (k : Nat) (x : Str) (ps : List Str) (sp : Sp) : Prop where
  ex : ∃ (f : Addr) (fd : FuncData), FnOk P w K mg base CX k f fd ps sp ∧ mg x = some (.ref f) ∧ PySem.W.keepIn K (.ref f) = true ∧ Binds K fd ps []
/-- a def as the top has left it -/
structure Pl (K : PySem.W.Frag) (mg : Str → Option Value) (x : Str) (st : Stmt) (ps : List Str) : Prop where
  ex : ∃ (f : Addr) (fd : FuncData), Fun K x x st f fd ∧ mg x = some (.ref f) ∧ Binds K fd ps []
section
variable {P : Program} {w : World} {K : PySem.W.Frag} {mg : Str → Option Value} {base : Heap}
theorem Def.mono {CX : CXT} {j k : Nat} {x : Str} {ps : List Str} {sp : Sp} (d : Def P w K mg base CX j x ps sp) (h : j ≤ k) : Def P w K mg base CX k x ps sp := by
  obtain ⟨f, fd, F, a, b, c⟩ := d.ex
  exact ⟨f, fd, F.mono h, a, b, c⟩
theorem Def.imp {CX : CXT} {k : Nat} {x : Str} {ps : List Str} {sp sp' : Sp} (d : Def P w K mg base CX k x ps sp) (h : ∀ vs H Q E, sp' vs H Q E → sp vs H Q E) : Def P w K mg base CX k x ps sp' := by
  obtain ⟨f, fd, F, a, b, c⟩ := d.ex
  exact ⟨f, fd, F.imp h, a, b, c⟩
theorem Pl.ok {x : Str} {st : Stmt} {N ps : List Str} {k : Nat} {sp : Sp} (p : Pl K mg x st ps) (S : FnScope N ps (defScope st)) (len : ∀ vs H Q E, sp vs H Q E → vs.length = ps.length)
    (hbody : ∀ (f : Addr) (cdv : Value) (A : Around) (outer : List Env) (s : Shared) (H : Hp) (vs : List V) (Q : VK) (E : XK), Room k (A.deeper (envOfC x (defScope st) s.heap.objs.size f cdv)) → sp vs H Q E →
      ∃ t, PSs (cxOf CX0 P w K mg base N x (defScope st) f cdv A outer s H E).nox (defBody st) t ∧ t { nx := fun _ H' => Q .non H', rt := Q } (start N vs) H) : Def P w K mg base CX0 (k + 1) x ps sp := by
  obtain ⟨f, fd, F, hm, hb⟩ := p.ex
  exact ⟨f, fd, F.ok S len fun cdv A outer s H vs Q E hr h => hbody f cdv A outer s H vs Q E hr h, hm, F.kp, hb⟩
theorem pl_mk {h : Heap} {x : Str} {st : Stmt} {ps : List Str} {f : Addr} {oc : Value} {od an : Option Addr} {osl : Array (Option Value)} {kV doc pm cdv ct : Value} (X : K.In h) (G : h.Ns mainGlobals mg)
    (a : PySem.W.nsIn K mainGlobals x = some (some (.ref f)))
    (l : K.lookup f = some ⟨oc, od, .func (PySem.W.fnOf x x (defArgs st) (defBody st) (defScope st) .none kV doc pm an cdv ct), osl⟩)
    (c : PySem.W.codeIn K cdv x = true) (k : PySem.W.keepIn K (.ref f) = true)
    (hb : ∀ (kV doc pm : Value) (an : Option Addr) (cdv ct : Value) (us : List Value), us.length = ps.length → bindArgs (PySem.W.fnOf x x (defArgs st) (defBody st) (defScope st) .none kV doc pm an cdv ct) ⟨us, []⟩ = pure (ps.zip us)) : Pl K mg x st ps :=
  ⟨f, _, fun_mk l c k, PySem.W.mg_of X G a, (fun_mk l c k).binds hb⟩
end
section
variable {X : Cx} {CX : CXT} {j k : Nat} {x : Str} {ps : List Str} {sp : Sp} {E : XK} {p pos : Pos} {e : Expr} {es : List Expr} {t : TA}
theorem pe_fn (d : Def X.prog X.w X.K X.mg X.base CX j x ps sp) (hj : j ≤ k) (hr : Room k X.A) (hg : Gl X x) (hx : Passes CX X E) (ha : PA X (e :: es) t)
    (hdb : (x == ("__debug__" : Str)) = false := by decide) (he : starEach (e :: es) X.env = (false, eval e X.env) :: starEach es X.env := by rfl) (hpl : (backTo pos (starEach es X.env)).any (·.1) = false := by rfl) :
    PE X (.Call (.Name x p) (e :: es) [] pos) (tCall sp [] E t) := by
  obtain ⟨f, fd, F, a, b, c⟩ := d.ex
  exact pe_call F (hr.mono hj) hg a b c .nil hx ha hdb he hpl
theorem pe_fn0 (d : Def X.prog X.w X.K X.mg X.base CX j x ps sp) (hj : j ≤ k) (hr : Room k X.A) (hg : Gl X x) (hx : Passes CX X E)
    (hdb : (x == ("__debug__" : Str)) = false := by decide) : PE X (.Call (.Name x p) [] [] pos) (tCall sp [] E tNil) := by
  obtain ⟨f, fd, F, a, b, c⟩ := d.ex
  exact pe_call0 F (hr.mono hj) hg a b c .nil hx hdb
/-- * of two ints that the model multiplies -/
theorem op_mulK : OpR X (binaryOp .Mult) (rI IntMulOk fun i j => .int (i * j)) := opI fun i j t u s Q E hc h => PyProof.Rows.mul_int h hc
end

/-! ### sizes of ints -/
def FitN (b : Nat) (c : Int) : Prop := ∃ m : Nat, 64 ≤ m ∧ m ≤ b ∧ c.natAbs < 2 ^ m
abbrev Fit (c : Int) : Prop := FitN 1048640 c
/-- a cell of the script -/
abbrev FitS (c : Int) : Prop := FitN 1048600 c
theorem FitN.of_bits {z : Int} (h : Builtin.Int.intBits z ≤ 1048576) : FitS z := by
  refine ⟨max 64 (z.natAbs.log2 + 1), Nat.le_max_left _ _, ?_, ?_⟩
  · have : z.natAbs.log2 + 1 ≤ 1048577 := by
      unfold Builtin.Int.intBits at h
      split at h
      · rename_i e
        have e' : z = 0 := by simpa using e
        subst e'
        decide
      · omega
    omega
  · exact Nat.lt_of_lt_of_le Nat.lt_log2_self (Nat.pow_le_pow_right (by decide) (Nat.le_max_right _ _))
theorem FitN.mono {b c : Nat} {z : Int} (h : FitN b z) (hb : b ≤ c) : FitN c z := by
  obtain ⟨m, h1, h2, h3⟩ := h
  exact ⟨m, h1, Nat.le_trans h2 hb, h3⟩
theorem FitN.zero {b : Nat} (h : 64 ≤ b) : FitN b 0 := ⟨64, Nat.le_refl _, h, by decide⟩
theorem fit_bits {c : Int} {m : Nat} (hm : 0 < m) (h : c.natAbs < 2 ^ m) : Builtin.Int.intBits c ≤ m := by
  unfold Builtin.Int.intBits
  split
  · exact Nat.zero_le _
  · rename_i e
    have e' : c.natAbs ≠ 0 := fun q => e (by simpa using Int.natAbs_eq_zero.mp q)
    have := (Nat.log2_lt e').mpr h
    omega
theorem fit_add {c d : Int} {m : Nat} (h1 : c.natAbs < 2 ^ m) (h2 : d.natAbs < 2 ^ m) : (c + d).natAbs < 2 ^ (m + 1) := by
  have := Int.natAbs_add_le c d
  rw [Nat.pow_succ]
  omega
theorem fit_small {d : Int} {m : Nat} (hm : 64 ≤ m) (h : d.natAbs < 18446744073709551616) : d.natAbs < 2 ^ m :=
  Nat.lt_of_lt_of_le h (Nat.le_trans (by decide : 18446744073709551616 ≤ 2 ^ 64) (Nat.pow_le_pow_right (by decide) hm))
theorem FitN.add {b : Nat} {c d : Int} (h : FitN b c) (hd : d.natAbs < 18446744073709551616) : FitN (b + 1) (c + d) := by
  obtain ⟨m, h1, h2, h3⟩ := h
  exact ⟨m + 1, by omega, by omega, fit_add h3 (fit_small h1 hd)⟩
theorem fit_cell {b : Nat} {ns : List Int} (hb : 64 ≤ b) (h : ∀ z ∈ ns, FitN b z) (k : Nat) : FitN b (ns.getD k 0) := by
  rw [List.getD_eq_getElem?_getD]
  cases e : ns[k]? with
  | none => exact FitN.zero hb
  | some z => exact h z (List.mem_of_getElem? e)
theorem mulOk_of {c d : Int} {m n : Nat} (h1 : Builtin.Int.intBits c ≤ m) (h2 : Builtin.Int.intBits d ≤ n) (h : m + n ≤ 134217728) : IntMulOk c d := by
  unfold IntMulOk
  intro z
  rw [Bool.and_eq_true] at z
  have z2 := z.2
  unfold Builtin.Int.intTooBig at z2
  have z3 := of_decide_eq_true z2
  have e : bitsLine = 134217728 := by decide
  rw [e] at z3
  omega

/-! ### more that evaluates -/
section
variable {K : PySem.W.Frag} {σ : L2.St} {H H' : Hp} {ta tb te tx : TE} {t u : TT} {x y z v : V} {r : R2} {D : Ends} {tu tw tz : TS} {g : TG}
theorem spv {sp : Sp} {vs : List V} {z : V} (h : ∀ H1, Ex H H1 → ∀ Q : VK, RetV z H1 Q → ∀ E : XK, sp vs H1 Q E) : SpV sp vs H z := fun H1 e Q q E => h H1 e Q (fun H2 e2 => q H2 e2) E
theorem spl {sp : Sp} {vs : List V} {zs : List V} (h : ∀ H1, Ex H H1 → ∀ Q : VK, RetL zs H1 Q → ∀ E : XK, sp vs H1 Q E) : SpL sp vs H zs := fun H1 e Q q E => h H1 e Q (fun p H2 n e2 a => q p H2 n e2 a) E
theorem rv_ixT' {p : Addr} {xs : List V} {i : Int} (h : H p = some (.tup xs)) (ha : atI xs i = some v) : RV (rIxT K) (.ref p) (.int i) H v := rv_ixT (st_of h) ha
/-- (a, b, ..)[i] -/
theorem ev_menu {xs : List V} {i : Int} (ha : EvU ta σ H xs) (hb : Ev tb σ H (.int i)) (hi : atI xs i = some v) : Ev (tOp (rIxT K) ta tb) σ H v := fun H1 e Q q =>
  ha H1 e _ fun p H2 n e2 a => hb H2 (e.trans e2) _ fun H3 e3 => rv_ixT (K := K) (st_of (e3 _ _ a)) hi H3 (Ex.refl _) Q fun H4 e4 => q H4 (e2.trans (e3.trans e4))
theorem tyx_list {a : Addr} {xs : List V} (h : SqL K H a xs) : TyX K H (.ref a) (.type "list") := by
  rcases h with (h | ⟨o, h⟩) | ⟨o, its, n, h1, h2, _⟩
  · exact .base (.lst h)
  · exact .base (.frz h)
  · exact .kList h1 h2
theorem tyx_int (i : Int) : TyX K H (.int i) (.type "int") := .base (.int i)
/-- isinstance(x, T), T a built-in class; the type's fact stands at every later heap -/
theorem ev_isi {ta : TA} {m n : String} {b : Bool} (h : EvA ta σ H [x, .ty n]) (ty : ∀ H1, Ex H H1 → TyX K H1 x (.type m)) (kb : kitB m n = some b) : Ev (tCB (rIsi K) ta) σ H (.bl b) :=
  ev_cb h fun H1 e Q q => ⟨x, .ty n, .type m, .type n, b, rfl, .ty n, ty H1 e, kit_ty kb, q H1 (Ex.refl _)⟩
/-- l.count(k) of ints -/
theorem ev_count {a : Addr} {ns : List Int} {i : Int} (ha : Ev ta σ H (.ref a)) (h : SqL K H a (ns.map V.int)) (hi : Ev te σ H (.int i)) : Ev (tBM K "list" (rCntI K) ta (tCons te tNil)) σ H (.int ((ns.count i : Nat) : Int)) := fun H1 e Q q =>
  ha H1 e _ fun H2 e2 => ⟨.inl ⟨rfl, _, ex_l (e.trans e2) h⟩, hi H2 (e.trans e2) _ fun H3 e3 => ⟨a, ns, i, rfl, rfl, ex_l (e.trans (e2.trans e3)) h, q H3 (e2.trans e3)⟩⟩
/-- .. of a new list -/
theorem ev_countL {ns : List Int} {i : Int} (ha : EvL ta σ H (ns.map V.int)) (hi : Ev te σ H (.int i)) : Ev (tBM K "list" (rCntI K) ta (tCons te tNil)) σ H (.int ((ns.count i : Nat) : Int)) := fun H1 e Q q =>
  ha H1 e _ fun p H2 n e2 a => ⟨.inl ⟨rfl, _, sq_of a⟩, hi H2 (e.trans e2) _ fun H3 e3 => ⟨p, ns, i, rfl, rfl, sq_of (e3 _ _ a), q H3 (e2.trans e3)⟩⟩
end
/-- a slice of a list of ints, from the start -/
theorem cut_to (ns : List Int) (k : Nat) : cutV (ns.map V.int) none (some (k : Int)) = (ns.take k).map V.int := by
  unfold cutV
  rw [HT.sIx_none, HT.sIx_nat, List.drop_zero, List.length_map, List.map_take, Nat.sub_zero]
  by_cases h : k ≤ ns.length
  · rw [Nat.min_eq_left h]
  · rw [Nat.min_eq_right (by omega), List.take_of_length_le (by rw [List.length_map]; omega), List.take_of_length_le (by rw [List.length_map]; omega)]
theorem cut_from (ns : List Int) (k : Nat) : cutV (ns.map V.int) (some (k : Int)) none = (ns.drop k).map V.int := by
  unfold cutV
  rw [HT.sIx_none, HT.sIx_nat, List.length_map, List.map_drop]
  by_cases h : k ≤ ns.length
  · rw [Nat.min_eq_left h]
    exact List.take_of_length_le (by rw [List.length_drop, List.length_map]; omega)
  · rw [Nat.min_eq_right (by omega), List.drop_of_length_le (by rw [List.length_map]; omega), List.drop_of_length_le (by rw [List.length_map]; omega), List.take_nil]

/-! ### comprehensions -/
theorem given_all (n : Nat) (v : Nat → V) : given n (fun _ => true) v = (List.range n).map v := by
  unfold given
  rw [List.filter_eq_self.mpr (fun _ _ => rfl)]
section
variable {K : PySem.W.Frag} {σ : L2.St} {H H' : Hp} {ta tb te tx : TE} {t u : TT} {x y z v : V} {r : R2} {D : Ends} {tu tw tz : TS} {g : TG}
theorem et_yes : EvT tYes σ H true := fun H1 e Q q => q H1 (Ex.refl _)
theorem el_is {xs ys : List V} (h : EvL te σ H xs) (e : xs = ys) : EvL te σ H ys := e ▸ h
/-- all(..), any(..) of a new list of bools -/
theorem ev_all {bs : List Bool} (h : EvL te σ H (bs.map V.bl)) : Ev (tCB (rAll K) (tCons te tNil)) σ H (.bl (bs.all id)) := fun H1 e Q q =>
  h H1 e _ fun p H2 n e2 a => ⟨p, bs, rfl, sq_of a, q H2 e2⟩
theorem ev_any {bs : List Bool} (h : EvL te σ H (bs.map V.bl)) : Ev (tCB (rAny K) (tCons te tNil)) σ H (.bl (bs.any id)) := fun H1 e Q q =>
  h H1 e _ fun p H2 n e2 a => ⟨p, bs, rfl, sq_of a, q H2 e2⟩
/-- the turns of enumerate, for a comprehension -/
theorem lc_enum {a : Addr} {xs : List V} {j1 j2 : Nat} {vs : List Nat} {H1 : Hp} {Dl : Addr} {Qd : Hp → Prop} (Pv : Nat → Hp → Prop) (h0 : Pv 0 (upd H1 Dl (.lst []))) (hl : ∀ i H, i ≤ xs.length → Pv i H → SqL K H a xs)
    (hs : ∀ i x H T, xs[i]? = some x → Pv i H → H T = none → wipe (((wipe σ vs).set j1 (some (.int (i : Int)))).set j2 (some x)) vs = wipe σ vs ∧ t (((wipe σ vs).set j1 (some (.int (i : Int)))).set j2 (some x)) (upd H T (.tup [.int (i : Int), x])) fun b H3 =>
      if b = true then te (((wipe σ vs).set j1 (some (.int (i : Int)))).set j2 (some x)) H3 fun y H4 => ∃ acc, H4 Dl = some (.lst acc) ∧ acc.length < sizeLine ∧ Pv (i + 1) (upd H4 Dl (.lst (acc ++ [y]))) else Pv (i + 1) H3) (hd : ∀ H, Pv xs.length H → Qd H) :
    ∃ W : Nat → Nat → Hp → Prop, (∃ m, W 0 m (upd H1 Dl (.lst []))) ∧ ∀ i m H, W i m H →
      ((Ite K a).stop i H ∧ Qd H) ∨ ((Ite K a).go i H ∧ ∃ Nx : Hp → Prop, (∀ H', Nx H' → ∃ m', m' < m ∧ W (i + 1) m' H') ∧ ∀ x H', (Ite K a).yld i H x H' → (gTup K 2 (gCons (gName j1) (gCons (gName j2) gNil))) x (wipe σ vs) H' fun σ2 H2 => wipe σ2 vs = wipe σ vs ∧ t σ2 H2 fun b H3 =>
        if b = true then te σ2 H3 fun y H4 => ∃ acc, H4 Dl = some (.lst acc) ∧ acc.length < sizeLine ∧ Nx (upd H4 Dl (.lst (acc ++ [y]))) else Nx H3) := by
  refine ⟨fun i m H => i + m = xs.length ∧ Pv i H, ⟨xs.length, by omega, h0⟩, fun i m H hW => ?_⟩
  obtain ⟨em, hP⟩ := hW
  have hA := hl i H (by omega) hP
  by_cases hi : i < xs.length
  · refine .inr ⟨⟨xs, xs[i], hA, List.getElem?_eq_getElem hi⟩, Pv (i + 1), fun H' hp => ⟨m - 1, by omega, by omega, hp⟩, fun x H' hy => ?_⟩
    obtain ⟨T, x1, rfl, nT, rfl, f⟩ := hy
    have ex := f xs hA
    exact ⟨T, [.int (i : Int), x1], rfl, st_of upd_same, rfl, _, _, rfl, _, _, rfl, rfl, hs i x1 H T ex hP nT⟩
  · have ei : i = xs.length := by omega
    subst ei
    exact .inl ⟨⟨xs, hA, Nat.le_refl _⟩, hd H hP⟩
theorem el_lcE {a : Addr} {xs : List V} {tl : TE} {j1 j2 : Nat} {vs : List Nat} (f : Nat → Bool) (v : Nat → V) (h : Ev tl σ H (.ref a)) (hx : SqL K H a xs) (hz : xs.length ≤ 40000) (hw : ∀ x y, wipe (((wipe σ vs).set j1 (some x)).set j2 (some y)) vs = wipe σ vs)
    (ht : ∀ (i : Nat) (x : V) H1, Ex H H1 → xs[i]? = some x → EvT t (((wipe σ vs).set j1 (some (.int (i : Int)))).set j2 (some x)) H1 (f i)) (he : ∀ (i : Nat) (x : V) H1, Ex H H1 → xs[i]? = some x → f i = true → Ev te (((wipe σ vs).set j1 (some (.int (i : Int)))).set j2 (some x)) H1 (v i)) :
    EvL (tLc (iEnum K (tCons tl tNil)) (gTup K 2 (gCons (gName j1) (gCons (gName j2) gNil))) t te vs) σ H (given xs.length f v) := fun H0 e Q q => h H0 e _ fun H1 e1 => ⟨a, xs, rfl, ex_l (e.trans e1) hx, fun Dl hD =>
  lc_enum (xs := xs) (Cw H1 f v Dl) ⟨hD, Ex.new hD, upd_same⟩ (fun i H' _ p => ex_l ((e.trans e1).trans p.2.1) hx) (fun i x H' T hi p nT => by
    have nD : Dl ≠ T := ne_of_none p.2.2 nT
    have p' : Cw H1 f v Dl i (upd H' T (.tup [.int (i : Int), x])) := ⟨p.1, p.2.1.trans (Ex.new nT), by rw [upd_ne nD]; exact p.2.2⟩
    exact ⟨hw _ _, cw_turn p' (by have := (List.getElem?_eq_some_iff.mp hi).1; omega) (ht i x H1 (e.trans e1) hi) (fun hf => he i x H1 (e.trans e1) hi hf)⟩)
    (fun H' p => q Dl H' (fresh_back e1 p.1) (e1.trans p.2.1) p.2.2)⟩
/-- all items of a list of ints pass -/
theorem range_true (n : Nat) : (List.range n).map (fun _ => V.bl true) = (List.replicate n true).map V.bl := by
  induction n with
  | zero => rfl
  | succ n ih => rw [List.range_succ, List.map_append, ih, List.replicate_succ', List.map_append]; rfl
theorem rep_true (n : Nat) : (List.replicate n true).all id = true := by
  induction n with
  | zero => rfl
  | succ n ih => rw [List.replicate_succ, List.all_cons, ih]; rfl
/-- all([f(x) for x in xs]), each True -/
theorem ev_allL {a : Addr} {xs : List V} {tl : TE} {j : Nat} {vs : List Nat} (h : Ev tl σ H (.ref a)) (hx : SqL K H a xs) (hz : xs.length ≤ 40000) (hw : ∀ x, wipe ((wipe σ vs).set j (some x)) vs = wipe σ vs)
    (he : ∀ (i : Nat) (x : V) H1, Ex H H1 → xs[i]? = some x → Ev te ((wipe σ vs).set j (some x)) H1 (.bl true)) : Ev (tCB (rAll K) (tCons (tLc (iList K tl) (gName j) tYes te vs) tNil)) σ H (.bl true) :=
  ev_is (ev_all (bs := List.replicate xs.length true) (el_is (el_lcL (fun _ => true) (fun _ => .bl true) h hx hz hw (fun _ _ _ _ _ => et_yes) (fun i x H1 e hi _ => he i x H1 e hi)) (by rw [given_all, range_true]))) (by rw [rep_true])
end
theorem int_at {ns : List Int} {i : Nat} {x : V} (h : (ns.map V.int)[i]? = some x) : ∃ n, ns[i]? = some n ∧ x = .int n := by
  rw [List.getElem?_map] at h
  cases e : ns[i]? with
  | none => rw [e] at h; cases h
  | some n => rw [e] at h; exact ⟨n, rfl, (Option.some.inj h).symm⟩

/-! ### data -/
theorem dp_ints {K : PySem.W.Frag} {H : Hp} : ∀ ns : List Int, DpAll K H (ns.map V.int) (ns.map PyData.int)
  | [] => .nil
  | n :: r => .cons (.int n) (dp_ints r)
theorem dp_list {K : PySem.W.Frag} {H : Hp} {a : Addr} {ns : List Int} (h : SqL K H a (ns.map V.int)) : Dp K H (.ref a) (.list (ns.map .int)) := .lst h (dp_ints ns)
theorem lay_ints : ∀ ns : List Int, PyData.canLayAll0 (ns.map PyData.int) = true
  | [] => by simp only [List.map_nil, PyData.canLayAll0]
  | n :: r => by simp only [List.map_cons, PyData.canLayAll0, PyData.canLay0, lay_ints r, Bool.and_self]
theorem depth_ints : ∀ ns : List Int, PyData.depthAll (ns.map PyData.int) = 0
  | [] => by simp only [List.map_nil, PyData.depthAll]
  | n :: r => by simp only [List.map_cons, PyData.depthAll, PyData.depth, depth_ints r, Nat.max_self]
theorem shaped_ints (ns : List Int) : SeqAt.shaped (.list (ns.map .int)) = true := by
  unfold SeqAt.shaped
  simp only [PyData.canLay0, lay_ints, PyData.depth, depth_ints, Bool.true_and]
  decide
theorem eqv_ints : ∀ ns ms : List Int, PyData.eqvAll (ns.map .int) (ms.map .int) = decide (ns = ms)
  | [], [] => by simp [PyData.eqvAll]
  | [], _ :: _ => by simp [PyData.eqvAll]
  | _ :: _, [] => by simp [PyData.eqvAll]
  | n :: r, m :: s => by
    simp only [List.map_cons, PyData.eqvAll, PyData.eqv, eqv_ints r s]
    by_cases h : n = m <;> by_cases h2 : r = s <;> simp [h, h2]
theorem eqv_list (ns ms : List Int) : PyData.eqv (.list (ns.map .int)) (.list (ms.map .int)) = decide (ns = ms) := by
  simp only [PyData.eqv, eqv_ints]
section
variable {K : PySem.W.Frag} {σ : L2.St} {H H' : Hp} {ta tb te tx : TE} {t u : TT} {x y z v : V} {r : R2} {D : Ends} {tu tw tz : TS} {g : TG}
theorem rv_neI {p q : Addr} {ns ms : List Int} (h1 : SqL K H p (ns.map V.int)) (h2 : SqL K H q (ms.map V.int)) : RV (rNeD K) (.ref p) (.ref q) H (.bl (!decide (ns = ms))) := fun H1 e Q k =>
  ⟨_, _, dp_list (ex_l e h1), dp_list (ex_l e h2), shaped_ints ns, shaped_ints ms, by rw [eqv_list]; exact k H1 (Ex.refl _)⟩
theorem rv_eqI {p q : Addr} {ns ms : List Int} (h1 : SqL K H p (ns.map V.int)) (h2 : SqL K H q (ms.map V.int)) : RV (rEqD K) (.ref p) (.ref q) H (.bl (decide (ns = ms))) := fun H1 e Q k =>
  ⟨_, _, dp_list (ex_l e h1), dp_list (ex_l e h2), shaped_ints ns, shaped_ints ms, by rw [eqv_list]; exact k H1 (Ex.refl _)⟩

theorem rv_neSame {p q : Addr} {ns : List Int} (h1 : SqL K H p (ns.map V.int)) (h2 : SqL K H q (ns.map V.int)) : RV (rNeD K) (.ref p) (.ref q) H (.bl false) := by
  have h := rv_neI h1 h2
  rw [decide_eq_true rfl] at h
  exact h
theorem rv_eqSame {p q : Addr} {ns : List Int} (h1 : SqL K H p (ns.map V.int)) (h2 : SqL K H q (ns.map V.int)) : RV (rEqD K) (.ref p) (.ref q) H (.bl true) := by
  have h := rv_eqI h1 h2
  rw [decide_eq_true rfl] at h
  exact h

/-! ### in, index of ints -/
theorem flat_ints (ns : List Int) : (ns.map V.int).all flatV = true := by
  induction ns with
  | nil => rfl
  | cons n r ih => rw [List.map_cons, List.all_cons, ih]; rfl
theorem in_ints (i : Int) (ns : List Int) : inV (.int i) (ns.map V.int) = decide (i ∈ ns) := by
  unfold inV
  induction ns with
  | nil => rfl
  | cons n r ih =>
    rw [List.map_cons, List.any_cons, ih]
    show ((n == i) || decide (i ∈ r)) = _
    by_cases h : n = i
    · subst h; simp
    · have h' : ¬ i = n := fun e => h e.symm
      simp [h, h']
theorem idx_get {l : List Int} {s : Int} (h : s ∈ l) : l[l.idxOf s]? = some s := by
  induction l with
  | nil => cases h
  | cons a r ih =>
    rw [List.idxOf_cons]
    by_cases e : a = s
    · subst e; simp
    · have q : (a == s) = false := by simpa using e
      rw [q]
      show (a :: r)[r.idxOf s + 1]? = some s
      rw [List.getElem?_cons_succ]
      refine ih ?_
      rcases List.mem_cons.mp h with z | z
      · exact absurd z.symm e
      · exact z
theorem idx_first {l : List Int} {s : Int} {m : Nat} {z : Int} (hm : m < l.idxOf s) (hz : l[m]? = some z) : z ≠ s := by
  induction l generalizing m with
  | nil => simp at hz
  | cons a r ih =>
    rw [List.idxOf_cons] at hm
    by_cases e : a = s
    · subst e; simp at hm
    · have q : (a == s) = false := by simpa using e
      rw [q] at hm
      have hm' : m < r.idxOf s + 1 := hm
      cases m with
      | zero => simp at hz; subst hz; exact e
      | succ m =>
        have hm2 : m < r.idxOf s := by omega
        exact ih hm2 (by simpa using hz)
/-- l.index(k) of ints, k in l -/
theorem ev_index {a : Addr} {ns : List Int} {i : Int} (ha : Ev ta σ H (.ref a)) (h : SqL K H a (ns.map V.int)) (hi : Ev te σ H (.int i)) (hm : i ∈ ns) : Ev (tBM K "list" (rIndex K) ta (tCons te tNil)) σ H (.int ((ns.idxOf i : Nat) : Int)) := fun H1 e Q q =>
  ha H1 e _ fun H2 e2 => ⟨.inl ⟨rfl, _, ex_l (e.trans e2) h⟩, hi H2 (e.trans e2) _ fun H3 e3 => ⟨a, ns.map V.int, .int i, ns.idxOf i, .int i, rfl, rfl, ex_l (e.trans (e2.trans e3)) h, rfl, flat_ints ns, by rw [List.getElem?_map, idx_get hm]; rfl, by show (i == i) = true; simp,
    fun m z hm' hz => by
      obtain ⟨n, hn, rfl⟩ := int_at hz
      show (n == i) = false
      simpa using idx_first hm' hn, q H3 (e2.trans e3)⟩⟩

/-! ### dicts of ints -/
theorem ev_dget2 {d : Addr} {kvs : List (Key × V)} {k : Key} (hd : Ev ta σ H (.ref d)) (h : H d = some (.dK kvs)) (hk : Ev tb σ H (kV k)) (hx : Ev tx σ H z) : Ev (tDGet2 ta tb tx) σ H ((valV kvs k).getD z) := fun H1 e Q q =>
  hd H1 e _ fun H2 e2 => ⟨d, rfl, .inl ⟨kvs, .inl ((e.trans e2) _ _ h)⟩, hk H2 (e.trans e2) _ fun H3 e3 => hx H3 (e.trans (e2.trans e3)) _ fun H4 e4 => ⟨_, DGet.k ((e.trans (e2.trans (e3.trans e4))) _ _ h), q H4 (e2.trans (e3.trans e4))⟩⟩
theorem ev_dget {d : Addr} {kvs : List (Key × V)} {k : Key} (hd : Ev ta σ H (.ref d)) (h : H d = some (.dK kvs)) (hk : Ev tb σ H (kV k)) (hv : valV kvs k = some v) : Ev (tDGet ta tb) σ H v := fun H1 e Q q =>
  hd H1 e _ fun H2 e2 => hk H2 (e.trans e2) _ fun H3 e3 => ⟨d, v, rfl, hv ▸ DGet.k ((e.trans (e2.trans e3)) _ _ h), q H3 (e2.trans e3)⟩
theorem s_dput {d : Addr} {kvs : List (Key × V)} {k : Key} (h : H d = some (.dK kvs)) (hv : Ev te σ H v) (hd : Ev ta σ H (.ref d)) (hk : Ev tb σ H (kV k)) (hz : kvs.length < 100000) (c : ∀ H1, Ex H H1 → D.nx σ (upd H1 d (.dK (putK kvs k v)))) :
    sDPut ta tb te D σ H :=
  hv H (Ex.refl _) _ fun H1 e1 => hd H1 e1 _ fun H2 e2 => hk H2 (e1.trans e2) _ fun H3 e3 => ⟨d, _, rfl, DPut.k ((e1.trans (e2.trans e3)) _ _ h) (sz_lt hz), c H3 (e1.trans (e2.trans e3))⟩
theorem ev_lenD {d : Addr} {kvs : List (Key × V)} (hd : Ev ta σ H (.ref d)) (h : H d = some (.dK kvs)) : Ev (tCB (fun xs H Q => ∃ a kvs, xs = [V.ref a] ∧ H a = some (.dK kvs) ∧ Q (.int kvs.length) H) (tCons ta tNil)) σ H (.int (kvs.length : Int)) := fun H1 e Q q =>
  hd H1 e _ fun H2 e2 => ⟨d, kvs, rfl, (e.trans e2) _ _ h, q H2 e2⟩
theorem q_setd {d : Addr} {kvs : List (Key × V)} {k : Key} (h : H d = some (.dK kvs)) (hd : Ev ta σ H (.ref d)) (hk : Ev tb σ H (kV k)) (hx : Ev tx σ H z) (hz : kvs.length < 100000)
    (k1 : ∀ v H1, Ex H H1 → valV kvs k = some v → tz D σ H1) (k2 : ∀ H1, Ex H H1 → valV kvs k = none → tz D σ (upd H1 d (.dK (putK kvs k z)))) : tSeq (tDrop (tDSetd ta tb tx)) tz D σ H :=
  hd H (Ex.refl _) _ fun H1 e1 => ⟨d, rfl, .inl ⟨kvs, .inl (e1 _ _ h)⟩, hk H1 e1 _ fun H2 e2 => hx H2 (e1.trans e2) _ fun H3 e3 =>
    ⟨kvs, k, (e1.trans (e2.trans e3)) _ _ h, rfl, sz_lt hz, fun v hv => k1 v H3 (e1.trans (e2.trans e3)) hv, fun hn => k2 H3 (e1.trans (e2.trans e3)) hn⟩⟩

/-! ### ranges with a step, min, max -/
def rMin2 : List V → Hp → VK → Prop := fun xs H Q => ∃ i j, xs = [.int i, .int j] ∧ Q (.int (if j < i then j else i)) H
theorem ev_min2 {i j : Int} (ha : Ev ta σ H (.int i)) (hb : Ev tb σ H (.int j)) : Ev (tCB rMin2 (tCons ta (tCons tb tNil))) σ H (.int (if j < i then j else i)) := fun H1 e Q q =>
  ha H1 e _ fun H2 e2 => hb H2 (e.trans e2) _ fun H3 e3 => ⟨i, j, rfl, q H3 (e2.trans e3)⟩
theorem rgc_up {j c : Int} (hj : 0 ≤ j) (hj2 : j ≤ 100000) (hc : 0 < c) (hc2 : c ≤ 1000) : RgC 0 j c (Builtin.Range.rangeSize 0 j c).toNat := by
  have hd : 0 ≤ (j - 0 - 1) / c + 1 ∨ j ≤ 0 := by
    by_cases h : j ≤ 0
    · exact .inr h
    · have := Int.ediv_nonneg (a := j - 0 - 1) (b := c) (by omega) (by omega)
      exact .inl (by omega)
  have hd2 : (j - 0 - 1) / c ≤ 100000 := by
    by_cases h : 0 ≤ j - 0 - 1
    · exact Int.le_trans (Int.ediv_le_self c h) (by omega)
    · have : (j - 0 - 1) / c < 0 := Int.ediv_neg_of_neg_of_pos (by omega) hc
      omega
  have hs0 : 0 ≤ Builtin.Range.rangeSize 0 j c := by
    unfold Builtin.Range.rangeSize
    rw [if_pos hc]
    split <;> omega
  have hs1 : Builtin.Range.rangeSize 0 j c ≤ 100001 := by
    unfold Builtin.Range.rangeSize
    rw [if_pos hc]
    split <;> omega
  have fits : ∀ z : Int, -1000000 ≤ z → z ≤ 1000000 → Builtin.Range.rangeFitsLong z = true := fun z h1 h2 => by
    unfold Builtin.Range.rangeFitsLong
    simp only [Bool.and_eq_true, decide_eq_true_eq]
    omega
  refine ⟨by omega, by omega, ?_, by omega⟩
  unfold Builtin.Range.small
  rw [fits 0 (by decide) (by decide), fits j (by omega) (by omega), fits c (by omega) (by omega), fits _ (by omega) (by omega), if_pos hc, fits (j + (c - 1)) (by omega) (by omega)]
  simp
theorem rgc_lt {j c : Int} {i : Nat} (hc : 0 < c) (hi : i < (Builtin.Range.rangeSize 0 j c).toNat) : (i : Int) * c < j := by
  unfold Builtin.Range.rangeSize at hi
  rw [if_pos hc] at hi
  split at hi
  · have h1 : (i : Int) ≤ (j - 0 - 1) / c := by omega
    have h2 : (i : Int) * c ≤ (j - 0 - 1) / c * c := Int.mul_le_mul_of_nonneg_right h1 (by omega)
    have h3 : (j - 0 - 1) / c * c ≤ j - 0 - 1 := Int.ediv_mul_le _ (by omega)
    omega
  · simp at hi
theorem q_forR3 {ta : TA} {j : Nat} {n c : Int} (h : EvA ta σ H [.int 0, .int n, .int c]) (hn : 0 ≤ n ∧ n ≤ 100000) (hc : 0 < c ∧ c ≤ 1000) (Pv : Nat → L2.St → Hp → Prop) (h0 : ∀ H1, Ex H H1 → Pv 0 σ H1)
    (hs : ∀ (i : Nat) σ' H', (i : Int) * c < n → Pv i σ' H' → tu { D with nx := Pv (i + 1), ct := Pv (i + 1), bk := tz D } (σ'.set j (some (.int ((i : Int) * c)))) H') (hd : ∀ i σ' H', Pv i σ' H' → tz D σ' H') : tSeq (tFor (iRng3 ta) (gName j) tu) tz D σ H :=
  h H (Ex.refl _) _ fun H1 e1 => ⟨0, n, c, _, rfl, rgc_up hn.1 hn.2 hc.1 hc.2, for_rangeC (D := { D with nx := tz D }) Pv (h0 H1 e1) (fun i σ' H' hi hP => by
    have e : (0 : Int) + (i : Nat) * c = (i : Int) * c := Int.zero_add _
    show tu _ (σ'.set j (some (.int ((0 : Int) + (i : Nat) * c)))) H'
    rw [e]
    exact hs i σ' H' (rgc_lt hc.1 hi) hP) (fun σ' H' hP => hd _ σ' H' hP)⟩
/-- a call that ends a reading: its arguments evaluate, then its promise -/
theorem rd_call {sp : Sp} {vs : List V} {E : XK} {ta : TA} {Q : VK} (h : EvA ta σ H vs) (k : ∀ H1, Ex H H1 → sp (vs ++ []) H1 Q E) : tCall sp [] E ta σ H Q := h H (Ex.refl _) _ fun H1 e1 => k H1 e1
end
/-! ### what evaluates to data -/
mutual
theorem dp_mono {K : PySem.W.Frag} {H H' : Hp} (e : Ex H H') : ∀ {v : V} {d : PyData}, Dp K H v d → Dp K H' v d
  | _, _, .non => .non
  | _, _, .bl b => .bl b
  | _, _, .int i => .int i
  | _, _, .str x => .str x
  | _, _, .lst h r => .lst (ex_l e h) (dpA_mono e r)
  | _, _, .tup h r => .tup (ex_t e h) (dpA_mono e r)
theorem dpA_mono {K : PySem.W.Frag} {H H' : Hp} (e : Ex H H') : ∀ {vs : List V} {ds : List PyData}, DpAll K H vs ds → DpAll K H' vs ds
  | _, _, .nil => .nil
  | _, _, .cons h r => .cons (dp_mono e h) (dpA_mono e r)
end
def EvD (K : PySem.W.Frag) (te : TE) (σ : L2.St) (H : Hp) (d : PyData) : Prop := ∀ H1, Ex H H1 → ∀ Q : VK, (∀ v H2, Ex H1 H2 → Dp K H2 v d → Q v H2) → te σ H1 Q
def EvDA (K : PySem.W.Frag) (ta : TA) (σ : L2.St) (H : Hp) (ds : List PyData) : Prop := ∀ H1, Ex H H1 → ∀ Q : List V → Hp → Prop, (∀ vs H2, Ex H1 H2 → DpAll K H2 vs ds → Q vs H2) → ta σ H1 Q
/-- a list that is tracked -/
def EvDL (K : PySem.W.Frag) (te : TE) (σ : L2.St) (H : Hp) (ds : List PyData) : Prop := ∀ H1, Ex H H1 → ∀ Q : VK, (∀ p vs H2, Ex H1 H2 → H2 p = some (.lst vs) → DpAll K H2 vs ds → Q (.ref p) H2) → te σ H1 Q
section
variable {K : PySem.W.Frag} {σ : L2.St} {H H' : Hp} {ta tb te tx : TE} {t u : TT} {x y z v : V} {r : R2} {D : Ends} {tu tw tz : TS} {g : TG} {d e : PyData} {ds es : List PyData}
theorem dpA_len : ∀ {vs : List V} {ds : List PyData}, DpAll K H vs ds → vs.length = ds.length
  | _, _, .nil => rfl
  | _, _, .cons _ r => by rw [List.length_cons, List.length_cons, dpA_len r]
theorem dpA_app : ∀ {vs ws : List V} {ds es : List PyData}, DpAll K H vs ds → DpAll K H ws es → DpAll K H (vs ++ ws) (ds ++ es)
  | _, _, _, _, .nil, q => q
  | _, _, _, _, .cons h r, q => .cons h (dpA_app r q)
theorem ed_ev (h : Ev te σ H v) (hd : Dp K H v d) : EvD K te σ H d := fun H1 e Q q => h H1 e Q fun H2 e2 => q v H2 e2 (dp_mono (e.trans e2) hd)
theorem ed_int {i : Int} (h : Ev te σ H (.int i)) : EvD K te σ H (.int i) := ed_ev h (.int i)
theorem ed_L {ns : List Int} (h : EvL te σ H (ns.map V.int)) : EvD K te σ H (.list (ns.map .int)) := fun H1 e Q q => h H1 e Q fun p H2 n e2 a => q _ H2 e2 (dp_list (sq_of a))
theorem ed_U {ns : List Int} (h : EvU te σ H (ns.map V.int)) : EvD K te σ H (.tuple (ns.map .int)) := fun H1 e Q q => h H1 e Q fun p H2 n e2 a => q _ H2 e2 (.tup (st_of a) (dp_ints ns))
theorem eda_nil : EvDA K tNil σ H [] := fun H1 e Q q => q [] H1 (Ex.refl _) .nil
theorem eda_cons {tr : TA} (h : EvD K te σ H d) (hr : EvDA K tr σ H ds) : EvDA K (tCons te tr) σ H (d :: ds) := fun H1 e Q q =>
  h H1 e _ fun v H2 e2 hv => hr H2 (e.trans e2) _ fun vs H3 e3 hs => q (v :: vs) H3 (e2.trans e3) (.cons (dp_mono e3 hv) hs)
theorem edl_lst {ta : TA} (h : EvDA K ta σ H ds) (hl : ds.length ≤ 100000) : EvDL K (tLst ta) σ H ds := fun H1 e Q q =>
  h H1 e _ fun vs H2 e2 hs => ⟨sz_of (by rw [dpA_len hs]; exact hl), fun p hp => q p vs _ (e2.trans (Ex.new hp)) upd_same (dpA_mono (Ex.new hp) hs)⟩
theorem EvDL.ed (h : EvDL K te σ H ds) : EvD K te σ H (.list ds) := fun H1 e Q q => h H1 e Q fun p vs H2 e2 hp hs => q _ H2 e2 (.lst (sq_of hp) hs)
theorem ed_tup {ta : TA} (h : EvDA K ta σ H ds) (hl : ds.length ≤ 100000) : EvD K (tTup ta) σ H (.tuple ds) := fun H1 e Q q =>
  h H1 e _ fun vs H2 e2 hs => ⟨sz_of (by rw [dpA_len hs]; exact hl), fun p hp => q _ _ (e2.trans (Ex.new hp)) (.tup (st_of upd_same) (dpA_mono (Ex.new hp) hs))⟩
theorem edl_ev {p : Addr} {vs : List V} (h : Ev te σ H (.ref p)) (hp : H p = some (.lst vs)) (hs : DpAll K H vs ds) : EvDL K te σ H ds := fun H1 e Q q => h H1 e Q fun H2 e2 => q p vs H2 e2 ((e.trans e2) _ _ hp) (dpA_mono (e.trans e2) hs)
theorem edl_L {ns : List Int} (h : EvL te σ H (ns.map V.int)) : EvDL K te σ H (ns.map .int) := fun H1 e Q q => h H1 e Q fun p H2 n e2 a => q p _ H2 e2 a (dp_ints ns)
theorem edl_cat (ha : EvDL K ta σ H ds) (hb : EvDL K tb σ H es) (hl : ds.length + es.length ≤ 100000) : EvDL K (tOp rCat ta tb) σ H (ds ++ es) := fun H1 e Q q =>
  ha H1 e _ fun p vs H2 e2 hp hs => hb H2 (e.trans e2) _ fun p2 ws H3 e3 hp2 hs2 => ⟨p, p2, vs, ws, rfl, rfl, e3 _ _ hp, hp2, sz_of (by rw [dpA_len hs, dpA_len hs2]; exact hl), fun p3 n3 => q p3 (vs ++ ws) _ (e2.trans (e3.trans (Ex.new n3))) upd_same (dpA_mono (Ex.new n3) (dpA_app (dpA_mono e3 hs) hs2))⟩
theorem ev_neD (ha : EvD K ta σ H d) (hb : EvD K tb σ H e) (h1 : SeqAt.shaped d = true) (h2 : SeqAt.shaped e = true) : Ev (tOp (rNeD K) ta tb) σ H (.bl (!PyData.eqv d e)) := fun H1 e1 Q q =>
  ha H1 e1 _ fun v H2 e2 hv => hb H2 (e1.trans e2) _ fun w H3 e3 hw => ⟨d, e, dp_mono e3 hv, hw, h1, h2, q H3 (e2.trans e3)⟩
theorem ev_eqD (ha : EvD K ta σ H d) (hb : EvD K tb σ H e) (h1 : SeqAt.shaped d = true) (h2 : SeqAt.shaped e = true) : Ev (tOp (rEqD K) ta tb) σ H (.bl (PyData.eqv d e)) := fun H1 e1 Q q =>
  ha H1 e1 _ fun v H2 e2 hv => hb H2 (e1.trans e2) _ fun w H3 e3 hw => ⟨d, e, dp_mono e3 hv, hw, h1, h2, q H3 (e2.trans e3)⟩
/-- a call that is handed a new list of ints alone -/
theorem el_callN {sp : Sp} {E : XK} {ns xs : List Int} (h : EvL te σ H (ns.map V.int)) (hs : ∀ p H1, Ex H H1 → H1 p = some (.lst (ns.map V.int)) → SpL sp [.ref p] H1 (xs.map V.int)) : EvL (tCall sp [] E (tCons te tNil)) σ H (xs.map V.int) := fun H1 e Q q =>
  h H1 e _ fun p H2 n e2 a => hs p H2 (e.trans e2) a H2 (Ex.refl _) Q (fun p3 H3 n3 e3 a3 => q p3 H3 (fresh_back e2 n3) (e2.trans e3) a3) E
theorem ev_callN {sp : Sp} {E : XK} {ns : List Int} (h : EvL te σ H (ns.map V.int)) (hs : ∀ p H1, Ex H H1 → H1 p = some (.lst (ns.map V.int)) → SpV sp [.ref p] H1 z) : Ev (tCall sp [] E (tCons te tNil)) σ H z := fun H1 e Q q =>
  h H1 e _ fun p H2 n e2 a => hs p H2 (e.trans e2) a H2 (Ex.refl _) Q (fun H3 e3 => q H3 (e2.trans e3)) E
end
section
variable {X : Cx} {o e f : Expr} {td ty tx : TE} {apos cpos : Pos}
theorem pe_dg2 (hu : X.A.units + 1 < cLine) (ho : PE X o td) (he : PE X e ty) (hf : PE X f tx) (m : M2 X o "get" apos e f cpos := by exact ⟨rfl, rfl, rfl, rfl⟩) : PE X (.Call (.Attribute o "get" apos) [e, f] [] cpos) (tDGet2 td ty tx) := pe_dget2 hu ho he hf m
theorem pe_dsd (ho : PE X o td) (he : PE X e ty) (hf : PE X f tx) (m : M2 X o "setdefault" apos e f cpos := by exact ⟨rfl, rfl, rfl, rfl⟩) : PE X (.Call (.Attribute o "setdefault" apos) [e, f] [] cpos) (tDSetd td ty tx) := pe_dsetd ho he hf m
end
/-! ### classes -/
structure ClsT (K : PySem.W.Frag) (C : Addr) : Prop where
  cl : Cls K C
  ha : PySem.W.findIn K (.ref C) "__class__" = some (some (.builtin "object.__class__"))
  hn : PySem.W.specialIn K (.builtin "object.__class__") "__get__" = some (some (.builtin "getset_descriptor.__get__"))
  htk : PySem.W.takesIn K (.builtin "object.__class__") = some true
  hm : PySem.W.mroIn K C (.type "object") = some true
theorem ClsT.ty {K : PySem.W.Frag} {C : Addr} (T : ClsT K C) {H : Hp} {a dx : Addr} {fs : List (Str × V)} (e : H a = some (.ins C dx fs)) : TyX K H (.ref a) (.ref C) := .base (.ins e T.cl T.ha T.hn T.htk T.hm)
theorem kit_own {K : PySem.W.Frag} {A B : Addr} {r : Bool} (c : PySem.W.isClsIn K B = true) (ty : PySem.W.typeIn K (.ref B) = some (.type "type")) (s : PySem.W.subIn K (.ref A) (.ref B) = some r) (s2 : PySem.W.subIn K (.ref B) (.ref B) = some true) : PySem.W.kitOne K (.ref A) (.ref B) = some r := by
  unfold PySem.W.kitOne
  by_cases e : A = B
  · subst e
    rw [if_pos (by simp)]
    exact s2.symm.trans s
  · rw [if_neg (by simpa using e)]
    unfold PySem.W.kitCls
    have c' : (PySem.W.clsIn K B).isSome = true := by unfold PySem.W.isClsIn at c; exact c
    simp only [c', ty, Bool.true_and, beq_self_eq_true, if_true]
    exact s
/-- a class that is made by its own __init__ -/
structure Mkd (P : Program) (w : World) (K : PySem.W.Frag) (mg : Str → Option Value) (base : Heap) (CX : CXT) (k : Nat) (x : Str) (C : Addr) (ps : List Str) (sp : Sp) : Prop where
  ex : ∃ (f : Addr) (fd : FuncData), FnOk P w K mg base CX k f fd ps sp ∧ Mk K C f ∧ mg x = some (.ref C) ∧ Binds K fd ps []
/-- a method -/
structure Mtd (P : Program) (w : World) (K : PySem.W.Frag) (mg : Str → Option Value) (base : Heap) (CX : CXT) (k : Nat) (m : Str) (C : Addr) (ps : List Str) (sp : Sp) : Prop where
  ex : ∃ (f : Addr) (fd : FuncData), FnOk P w K mg base CX k f fd ps sp ∧ Meth K C m f ∧ Binds K fd ps [] ∧ Cls K C
structure PlM (K : PySem.W.Frag) (C : Addr) (m qual : Str) (st : Stmt) (ps : List Str) : Prop where
  ex : ∃ (f : Addr) (fd : FuncData), Fun K m qual st f fd ∧ PySem.W.findIn K (.ref C) m = some (some (.ref f)) ∧ PySem.W.isFn K (.ref f) = true ∧ Binds K fd ps []
section
variable {P : Program} {w : World} {K : PySem.W.Frag} {mg : Str → Option Value} {base : Heap}
theorem PlM.okM {m qual : Str} {C : Addr} {st : Stmt} {N ps : List Str} {k : Nat} {sp : Sp} (p : PlM K C m qual st ps) (cl : Cls K C) (S : FnScope N ps (defScope st)) (len : ∀ vs H Q E, sp vs H Q E → vs.length = ps.length)
    (hbody : ∀ (f : Addr) (cdv : Value) (A : Around) (outer : List Env) (s : Shared) (H : Hp) (vs : List V) (Q : VK) (E : XK), Room k (A.deeper (envOfC qual (defScope st) s.heap.objs.size f cdv)) → sp vs H Q E →
      ∃ t, PSs (cxOf CX0 P w K mg base N qual (defScope st) f cdv A outer s H E).nox (defBody st) t ∧ t { nx := fun _ H' => Q .non H', rt := Q } (start N vs) H) : Mtd P w K mg base CX0 (k + 1) m C ps sp := by
  obtain ⟨f, fd, F, hm, hi, hb⟩ := p.ex
  exact ⟨f, fd, F.ok S len fun cdv A outer s H vs Q E hr h => hbody f cdv A outer s H vs Q E hr h, ⟨hm, hi, F.kp⟩, hb, cl⟩
theorem PlM.okI {x qual : Str} {C : Addr} {st : Stmt} {N ps : List Str} {k : Nat} {sp : Sp} (p : PlM K C "__init__" qual st ps) (hmk : PySem.W.makesIn K C = true) (hkc : PySem.W.keepIn K (.ref C) = true) (hg : mg x = some (.ref C)) (S : FnScope N ps (defScope st)) (len : ∀ vs H Q E, sp vs H Q E → vs.length = ps.length)
    (hbody : ∀ (f : Addr) (cdv : Value) (A : Around) (outer : List Env) (s : Shared) (H : Hp) (vs : List V) (Q : VK) (E : XK), Room k (A.deeper (envOfC qual (defScope st) s.heap.objs.size f cdv)) → sp vs H Q E →
      ∃ t, PSs (cxOf CX0 P w K mg base N qual (defScope st) f cdv A outer s H E).nox (defBody st) t ∧ t { nx := fun _ H' => Q .non H', rt := Q } (start N vs) H) : Mkd P w K mg base CX0 (k + 1) x C ps sp := by
  obtain ⟨f, fd, F, hm, hi, hb⟩ := p.ex
  exact ⟨f, fd, F.ok S len fun cdv A outer s H vs Q E hr h => hbody f cdv A outer s H vs Q E hr h, ⟨hmk, hm, hi, hkc⟩, hg, hb⟩
theorem plm_mk {C : Addr} {m qual : Str} {st : Stmt} {ps : List Str} {f : Addr} {oc : Value} {od an : Option Addr} {osl : Array (Option Value)} {kV doc pm cdv ct : Value}
    (a : PySem.W.findIn K (.ref C) m = some (some (.ref f))) (i : PySem.W.isFn K (.ref f) = true)
    (l : K.lookup f = some ⟨oc, od, .func (PySem.W.fnOf m qual (defArgs st) (defBody st) (defScope st) .none kV doc pm an cdv ct), osl⟩)
    (c : PySem.W.codeIn K cdv qual = true) (k : PySem.W.keepIn K (.ref f) = true)
    (hb : ∀ (kV doc pm : Value) (an : Option Addr) (cdv ct : Value) (us : List Value), us.length = ps.length → bindArgs (PySem.W.fnOf m qual (defArgs st) (defBody st) (defScope st) .none kV doc pm an cdv ct) ⟨us, []⟩ = pure (ps.zip us)) : PlM K C m qual st ps :=
  ⟨f, _, fun_mk l c k, a, i, (fun_mk l c k).binds hb⟩
end
def tEi (t1 t2 : TE) : TE := fun σ H Q => t1 σ H Q ∨ t2 σ H Q
theorem ev_eiL {t1 t2 : TE} {σ : L2.St} {H : Hp} {v : V} (h : Ev t1 σ H v) : Ev (tEi t1 t2) σ H v := fun H1 e Q q => .inl (h H1 e Q q)
theorem ev_eiR {t1 t2 : TE} {σ : L2.St} {H : Hp} {v : V} (h : Ev t2 σ H v) : Ev (tEi t1 t2) σ H v := fun H1 e Q q => .inr (h H1 e Q q)
theorem u65 {k : Nat} {A : Around} (r : Room k A) : A.units + 65 < cLine := by have := r.un; omega
section
variable {X : Cx} {CX : CXT} {j k : Nat} {C : Addr} {x m : Str} {ps : List Str} {sp : Sp} {E : XK} {p pos apos : Pos} {o e : Expr} {es : List Expr} {t : TA} {ta : TE}
theorem pe_mk (d : Mkd X.prog X.w X.K X.mg X.base CX j x C ps sp) (hj : j + 1 ≤ k) (hr : Room k X.A) (hg : Gl X x) (hx : Passes CX X E) (ha : PA X (e :: es) t)
    (hdb : (x == ("__debug__" : Str)) = false := by decide) (he : starEach (e :: es) X.env = (false, eval e X.env) :: starEach es X.env := by rfl) (hpl : (backTo pos (starEach es X.env)).any (·.1) = false := by rfl) :
    PE X (.Call (.Name x p) (e :: es) [] pos) (tMake C sp [] E t) := by
  obtain ⟨f, fd, F, M, hm, hb⟩ := d.ex
  exact pe_make M F (hr.mono hj) hg hm hb .nil hx ha hdb he hpl
theorem pe_mth {pl : Sem Bool} (d : Mtd X.prog X.w X.K X.mg X.base CX j m C ps sp) (hj : j ≤ k) (hr : Room k X.A) (hx : Passes CX X E) (ho : PE X o ta) (ha : PA X (e :: es) t)
    (hst : starEach (e :: es) X.env = (false, eval e X.env) :: starEach es X.env := by rfl) (hpl : (backTo pos (starEach es X.env)).any (·.1) = false := by rfl)
    (ht : eval (.Call (.Attribute o m apos) (e :: es) [] pos) X.env = (do
      let ov ← eval o X.env
      standAt apos.atName
      let (f, first) ← holding [ov] (getMethod ov m pl)
      callWith pos f first (backTo pos (starEach (e :: es) X.env)) (backToKw pos (keywordEach [] X.env))) := by rfl) :
    PE X (.Call (.Attribute o m apos) (e :: es) [] pos) (tMeth C m sp [] E ta t) := by
  obtain ⟨f, fd, F, M, hb, cl⟩ := d.ex
  exact pe_meth ho cl M F (hr.mono hj) hb .nil hx ha hst hpl ht
/-- one of two readings -/
theorem pe_either {e : Expr} {t1 t2 : TE} (h1 : PE X e t1) (h2 : PE X e t2) : PE X e (tEi t1 t2) :=
  ⟨fun pins s σ H Q I h => h.elim (h1.run pins s σ H Q I) (h2.run pins s σ H Q I)⟩
end
/-- Answer, Comes, Never -/
structure Ts (K : PySem.W.Frag) (mg : Str → Option Value) (CA CC CN : Addr) : Prop where
  tC : ClsT K CC
  tN : ClsT K CN
  nS : NoAttr K CC "signs"
  nP : NoAttr K CN "place"
  g_Answer : mg "Answer" = some (.ref CA)
  g_Comes : mg "Comes" = some (.ref CC)
  g_Never : mg "Never" = some (.ref CN)
  kCC : PySem.W.kitOne K (.ref CC) (.ref CC) = some true
  kCN : PySem.W.kitOne K (.ref CC) (.ref CN) = some false
  kCA : PySem.W.kitOne K (.ref CC) (.ref CA) = some true
  kNC : PySem.W.kitOne K (.ref CN) (.ref CC) = some false
  kNN : PySem.W.kitOne K (.ref CN) (.ref CN) = some true
  kNA : PySem.W.kitOne K (.ref CN) (.ref CA) = some true
  mkC : PySem.W.makesIn K CC = true
  kpC : PySem.W.keepIn K (.ref CC) = true
  mkN : PySem.W.makesIn K CN = true
  kpN : PySem.W.keepIn K (.ref CN) = true
/-- an answer with signs; one with a place -/
def IsComes (CC : Addr) (H : Hp) (x p : Addr) (ns : List Int) : Prop := (∃ dx, H x = some (.ins CC dx [("signs", .ref p)])) ∧ H p = some (.lst (ns.map V.int))
def IsNever (CN : Addr) (H : Hp) (x : Addr) (i : Int) : Prop := ∃ dx, H x = some (.ins CN dx [("place", .int i)])
theorem IsComes.mono {CC : Addr} {H H' : Hp} {x p : Addr} {ns : List Int} (e : Ex H H') (h : IsComes CC H x p ns) : IsComes CC H' x p ns := by
  obtain ⟨⟨dx, h1⟩, h2⟩ := h
  exact ⟨⟨dx, e _ _ h1⟩, e _ _ h2⟩
theorem IsNever.mono {CN : Addr} {H H' : Hp} {x : Addr} {i : Int} (e : Ex H H') (h : IsNever CN H x i) : IsNever CN H' x i := by
  obtain ⟨dx, h1⟩ := h
  exact ⟨dx, e _ _ h1⟩
def EvComes (CC : Addr) (te : TE) (σ : L2.St) (H : Hp) (ns : List Int) : Prop := ∀ H1, Ex H H1 → ∀ Q : VK, (∀ x p H2, H1 x = none → H1 p = none → Ex H1 H2 → IsComes CC H2 x p ns → Q (.ref x) H2) → te σ H1 Q
def EvNever (CN : Addr) (te : TE) (σ : L2.St) (H : Hp) (i : Int) : Prop := ∀ H1, Ex H H1 → ∀ Q : VK, (∀ x H2, H1 x = none → Ex H1 H2 → IsNever CN H2 x i → Q (.ref x) H2) → te σ H1 Q
section
variable {K : PySem.W.Frag} {mg : Str → Option Value} {CA CC CN C C' : Addr} {σ : L2.St} {H H' : Hp} {ta tb te tx : TE} {t u : TT} {x y z v : V} {r : R2} {D : Ends} {tu tw tz : TS} {g : TG}
theorem ev_isiC {ta : TA} {a dx : Addr} {fs : List (Str × V)} {b : Bool} (h : EvA ta σ H [.ref a, .ref C']) (T : ClsT K C) (e : H a = some (.ins C dx fs)) (kb : PySem.W.kitOne K (.ref C) (.ref C') = some b) : Ev (tCB (rIsi K) ta) σ H (.bl b) :=
  ev_cb h fun H1 e1 Q q => ⟨.ref a, .ref C', .ref C, .ref C', b, rfl, .own C', T.ty (e1 _ _ e), kb, q H1 (Ex.refl _)⟩
theorem ev_isiCM (T : Ts K mg CA CC CN) {b : Bool} {ns : List Int} (h : EvComes CC te σ H ns) (h2 : Ev tb σ H (.ref C')) (kb : PySem.W.kitOne K (.ref CC) (.ref C') = some b) : Ev (tCB (rIsi K) (tCons te (tCons tb tNil))) σ H (.bl b) := fun H1 e Q q =>
  h H1 e _ fun x p H2 _ _ e2 hc => h2 H2 (e.trans e2) _ fun H3 e3 => by
    obtain ⟨⟨dx, g1⟩, _⟩ := hc
    exact ⟨.ref x, .ref C', .ref CC, .ref C', b, rfl, .own C', T.tC.ty (e3 _ _ g1), kb, q H3 (e2.trans e3)⟩
theorem ev_isiNM (T : Ts K mg CA CC CN) {b : Bool} {i : Int} (h : EvNever CN te σ H i) (h2 : Ev tb σ H (.ref C')) (kb : PySem.W.kitOne K (.ref CN) (.ref C') = some b) : Ev (tCB (rIsi K) (tCons te (tCons tb tNil))) σ H (.bl b) := fun H1 e Q q =>
  h H1 e _ fun x H2 _ e2 hc => h2 H2 (e.trans e2) _ fun H3 e3 => by
    obtain ⟨dx, g1⟩ := hc
    exact ⟨.ref x, .ref C', .ref CN, .ref C', b, rfl, .own C', T.tN.ty (e3 _ _ g1), kb, q H3 (e2.trans e3)⟩
theorem ev_fldS (T : Ts K mg CA CC CN) {a p : Addr} {ns : List Int} (h : Ev te σ H (.ref a)) (hc : IsComes CC H a p ns) : Ev (tFld K te "signs") σ H (.ref p) := fun H1 e Q q =>
  h H1 e _ fun H2 e2 => by
    obtain ⟨⟨dx, h1⟩, h2⟩ := hc
    exact ⟨a, CC, dx, _, _, rfl, (e.trans e2) _ _ h1, T.tC.cl, T.nS, rfl, q H2 e2⟩
theorem ev_fldP (T : Ts K mg CA CC CN) {a : Addr} {i : Int} (h : Ev te σ H (.ref a)) (hc : IsNever CN H a i) : Ev (tFld K te "place") σ H (.int i) := fun H1 e Q q =>
  h H1 e _ fun H2 e2 => by
    obtain ⟨dx, h1⟩ := hc
    exact ⟨a, CN, dx, _, _, rfl, (e.trans e2) _ _ h1, T.tN.cl, T.nP, rfl, q H2 e2⟩
end
/-! ### len(set(xs)) -/
theorem dedup_firsts : ∀ (row acc : List Int), row.foldl step_dedup acc = firsts acc row
  | [], _ => rfl
  | a :: r, acc => by
    show r.foldl step_dedup (step_dedup acc a) = firsts (if a ∈ acc then acc else acc ++ [a]) r
    rw [dedup_firsts r]
    congr 1
    unfold step_dedup
    by_cases h : a ∈ acc
    · rw [if_pos h, if_pos (by simpa using h)]
    · rw [if_neg h, if_neg (by simpa using h)]
theorem firstMet_firsts (ns : List Int) : PyProof.Rows.firstMet (fun i => ns.getD i 0) ns.length = firsts [] ns := by
  unfold PyProof.Rows.firstMet
  rw [map_getD (fun s => s) ns, List.map_id']
  exact dedup_firsts ns []
def tLenSetD (K : PySem.W.Frag) (ta : TE) : TE := fun σ H Q => ta σ H fun x H1 => ∃ (l : Addr) (ns : List Int), x = .ref l ∧ SqL K H1 l (ns.map V.int) ∧ ns.length ≤ 4000 ∧ Q (.int (knownF ns : Int)) H1
theorem pe_lenSetD {X : Cx} {a : Expr} {ta : TE} {p p2 q pos : Pos} (hc : X.calm = true) (hg : Gl X "len") (hm : X.mg "len" = none) (hg2 : Gl X "set") (hm2 : X.mg "set" = none) (ha : PE X a ta)
    (na : starEach [a] X.env = (false, eval a X.env) :: starEach [] X.env := by rfl) : PE X (.Call (.Name "len" p) [.Call (.Name "set" p2) [a] [] q] [] pos) (tLenSetD X.K ta) := by
  refine ⟨fun pins s σ H Q I h => ?_⟩
  refine Call_ (ld_blt I hg hm boot_len ?_)
  refine PyProof.Rows.callWith_builtin1 (PyProof.Rows.args_cons ?_ rfl) rfl rfl
  refine Call_ (ld_blt I hg2 hm2 boot_set ?_)
  refine PyProof.Rows.callWith_type1 (PyProof.Rows.args_cons (thn (ha.run pins s σ H _ I h) fun v s1 ⟨x, H1, I1, r1, q1⟩ => PyProof.Rows.args_nil ?_) na) na rfl
  obtain ⟨l, ns, rfl, hq, hl, q1⟩ := q1
  cases r1
  obtain ⟨its, r, pl, hz⟩ := I1.list hq
  have hlen : its.toArray.size = ns.length := by rw [List.size_toArray, ← r.length, List.length_map]
  refine call_set_list (I1.ok.hd hc) pl.isList (by simpa using RZ.intsAre_vals r) (by rw [hlen]; unfold scanBound; omega) fun h' tk hS hk => ?_
  refine PyProof.Rows.args_nil ?_
  rw [hlen, firstMet_firsts] at hS
  obtain ⟨o, es, ep, t, ho, hex, hd, _, _, _, hf, hn⟩ := hS
  have I2 : Inv X pins σ H1 { s1 with heap := h', toks := tk } := I1.kept fun b o e => hk b o (Heap.lt_size e) e
  have hfl := firsts_len [] ns
  have hk2 : (firsts [] ns).length ≤ 4000 := by simp at hfl; omega
  exact call_len_set ho hex hd hf (by rw [hn] <;> omega) ⟨.int (knownF ns : Int), H1, I2.tok _, ⟨_, by rw [hn]; rfl⟩, q1⟩
section
variable {K : PySem.W.Frag} {mg : Str → Option Value} {CA CC CN C C' : Addr} {σ : L2.St} {H H' : Hp} {ta tb tc te tx tl : TE} {t u : TT} {x y z v : V} {r : R2} {D : Ends} {tu tw tz : TS} {g : TG} {xs ys : List V} {ds : List PyData}
theorem ev_lenSet {a : Addr} {ns : List Int} (ha : Ev ta σ H (.ref a)) (h : SqL K H a (ns.map V.int)) (hl : ns.length ≤ 4000) : Ev (tLenSetD K ta) σ H (.int (knownF ns : Int)) := fun H1 e Q q =>
  ha H1 e _ fun H2 e2 => ⟨a, ns, rfl, ex_l (e.trans e2) h, hl, q H2 e2⟩
theorem el_if {b : Bool} (h : EvT t σ H b) (h1 : b = true → EvL ta σ H xs) (h2 : b = false → EvL tb σ H xs) : EvL (tIf t ta tb) σ H xs := fun H1 e Q q => h H1 e _ fun H2 e2 => by
  cases b with
  | true => exact iteT (h1 rfl H2 (e.trans e2) Q fun p H3 n e3 a => q p H3 (fresh_back e2 n) (e2.trans e3) a)
  | false => exact iteF (h2 rfl H2 (e.trans e2) Q fun p H3 n e3 a => q p H3 (fresh_back e2 n) (e2.trans e3) a)
theorem el_cat (ha : EvL ta σ H xs) (hb : EvL tb σ H ys) (hl : xs.length + ys.length ≤ 100000) : EvL (tOp rCat ta tb) σ H (xs ++ ys) := fun H1 e Q q =>
  ha H1 e _ fun p H2 n e2 a => hb H2 (e.trans e2) _ fun p2 H3 n3 e3 a3 => ⟨p, p2, xs, ys, rfl, rfl, e3 _ _ a, a3, sz_of hl, fun p4 n4 => q p4 _ (fresh_back (e2.trans e3) n4) ((e2.trans e3).trans (Ex.new n4)) upd_same⟩
theorem el_catV {a : Addr} (ha : Ev ta σ H (.ref a)) (h : H a = some (.lst xs)) (hb : EvL tb σ H ys) (hl : xs.length + ys.length ≤ 100000) : EvL (tOp rCat ta tb) σ H (xs ++ ys) := fun H1 e Q q =>
  ha H1 e _ fun H2 e2 => hb H2 (e.trans e2) _ fun p2 H3 n3 e3 a3 => ⟨a, p2, xs, ys, rfl, rfl, (e.trans (e2.trans e3)) _ _ h, a3, sz_of hl, fun p4 n4 => q p4 _ (fresh_back (e2.trans e3) n4) ((e2.trans e3).trans (Ex.new n4)) upd_same⟩
theorem el_catVV {a b : Addr} (ha : Ev ta σ H (.ref a)) (h : H a = some (.lst xs)) (hb : Ev tb σ H (.ref b)) (h2 : H b = some (.lst ys)) (hl : xs.length + ys.length ≤ 100000) : EvL (tOp rCat ta tb) σ H (xs ++ ys) := fun H1 e Q q =>
  ha H1 e _ fun H2 e2 => hb H2 (e.trans e2) _ fun H3 e3 => ⟨a, b, xs, ys, rfl, rfl, (e.trans (e2.trans e3)) _ _ h, (e.trans (e2.trans e3)) _ _ h2, sz_of hl, fun p4 n4 => q p4 _ (fresh_back (e2.trans e3) n4) ((e2.trans e3).trans (Ex.new n4)) upd_same⟩
/-- [..] * k -/
theorem el_rep {k : Int} (ha : EvL ta σ H xs) (hb : Ev tb σ H (.int k)) (h0 : 0 ≤ k) (hl : k ≤ 1000) (hx : xs.length ≤ 50) : EvL (tOp rRep ta tb) σ H (List.replicate k.toNat xs).flatten := fun H1 e Q q =>
  ha H1 e _ fun p H2 n e2 a => hb H2 (e.trans e2) _ fun H3 e3 => ⟨p, k, xs, rfl, rfl, e3 _ _ a, by omega, by omega, sz_of (Nat.le_trans (Nat.mul_le_mul hx (show k.toNat ≤ 1000 by omega)) (by decide)), fun p4 n4 => q p4 _ (fresh_back (e2.trans e3) n4) ((e2.trans e3).trans (Ex.new n4)) upd_same⟩
theorem rep1 (n : Nat) (x : V) : (List.replicate n [x]).flatten = List.replicate n x := by
  induction n with
  | zero => rfl
  | succ n ih => rw [List.replicate_succ, List.flatten_cons, ih, List.replicate_succ]; rfl
/-- xs[::-1] -/
theorem el_rev {a : Addr} (ha : Ev ta σ H (.ref a)) (h : SqL K H a xs) : EvL (tRevL K ta) σ H xs.reverse := fun H1 e Q q =>
  ha H1 e _ fun H2 e2 => ⟨a, xs, rfl, ex_l (e.trans e2) h, fun p n => q p _ (fresh_back e2 n) (e2.trans (Ex.new n)) upd_same⟩
/-- a op b op c, ints -/
theorem ev_chain {f g : Int → Int → Bool} {i j k : Int} (ha : Ev ta σ H (.int i)) (hb : Ev tb σ H (.int j)) (hc : f i j = true → Ev tc σ H (.int k)) : Ev (tChain (rI0 fun i j => .bl (f i j)) (rI0 fun i j => .bl (g i j)) ta tb tc) σ H (.bl (f i j && g j k)) := fun H1 e Q q =>
  ha H1 e _ fun H2 e2 => hb H2 (e.trans e2) _ fun H3 e3 => ⟨i, j, rfl, rfl, f i j, rfl, by
    cases h : f i j with
    | true => exact iteT (hc h H3 (e.trans (e2.trans e3)) _ fun H4 e4 => ⟨j, k, rfl, rfl, by rw [h] at q; exact q H4 (e2.trans (e3.trans e4))⟩)
    | false => exact iteF (by rw [h] at q; exact q H3 (e2.trans e3))⟩
theorem rv_isB {a b : Bool} : RV rIsB (.bl a) (.bl b) H (.bl (decide (a = b))) := fun H1 e Q q => ⟨a, b, rfl, rfl, q H1 (Ex.refl _)⟩
theorem rv_notB {a b : Bool} : RV rNotB (.bl a) (.bl b) H (.bl (!decide (a = b))) := fun H1 e Q q => ⟨a, b, rfl, rfl, q H1 (Ex.refl _)⟩
/-! ### loops over enumerate, over tuples made on the way -/
theorem s_forE {a : Addr} {j1 j2 : Nat} (h : Ev tl σ H (.ref a)) (hx : SqL K H a xs) (Pv : Nat → L2.St → Hp → Prop) (h0 : ∀ H1, Ex H H1 → Pv 0 σ H1) (hl : ∀ i σ' H', i ≤ xs.length → Pv i σ' H' → SqL K H' a xs)
    (hs : ∀ i x σ' H' T, xs[i]? = some x → Pv i σ' H' → H' T = none → tu { D with nx := Pv (i + 1), ct := Pv (i + 1), bk := D.nx } ((σ'.set j1 (some (.int (i : Int)))).set j2 (some x)) (upd H' T (.tup [.int (i : Int), x])))
    (hd : ∀ σ' H', Pv xs.length σ' H' → D.nx σ' H') : tFor (iEnum K (tCons tl tNil)) (gTup K 2 (gCons (gName j1) (gCons (gName j2) gNil))) tu D σ H :=
  h H (Ex.refl _) _ fun H1 e1 => ⟨a, xs, rfl, ex_l e1 hx, fun i m σ' H' => i + m = xs.length ∧ Pv i σ' H', ⟨xs.length, by omega, h0 H1 e1⟩, fun i m σ' H' hW => by
    obtain ⟨em, hP⟩ := hW
    have hA := hl i σ' H' (by omega) hP
    by_cases hi : i < xs.length
    · refine .inr ⟨⟨xs, xs[i], hA, List.getElem?_eq_getElem hi⟩, Pv (i + 1), fun σ2 H2 hp => ⟨m - 1, by omega, by omega, hp⟩, fun x H2 hy => ?_⟩
      obtain ⟨T, x1, rfl, nT, rfl, f⟩ := hy
      exact ⟨T, [.int (i : Int), x1], rfl, st_of upd_same, rfl, _, _, rfl, _, _, rfl, rfl, hs i x1 σ' H' T (f xs hA) hP nT⟩
    · have ei : i = xs.length := by omega
      subst ei
      exact .inl ⟨⟨xs, hA, Nat.le_refl _⟩, hd σ' H' hP⟩⟩
theorem q_forE {a : Addr} {j1 j2 : Nat} (h : Ev tl σ H (.ref a)) (hx : SqL K H a xs) (Pv : Nat → L2.St → Hp → Prop) (h0 : ∀ H1, Ex H H1 → Pv 0 σ H1) (hl : ∀ i σ' H', i ≤ xs.length → Pv i σ' H' → SqL K H' a xs)
    (hs : ∀ i x σ' H' T, xs[i]? = some x → Pv i σ' H' → H' T = none → tu { D with nx := Pv (i + 1), ct := Pv (i + 1), bk := tz D } ((σ'.set j1 (some (.int (i : Int)))).set j2 (some x)) (upd H' T (.tup [.int (i : Int), x])))
    (hd : ∀ σ' H', Pv xs.length σ' H' → tz D σ' H') : tSeq (tFor (iEnum K (tCons tl tNil)) (gTup K 2 (gCons (gName j1) (gCons (gName j2) gNil))) tu) tz D σ H := s_forE (D := { D with nx := tz D }) h hx Pv h0 hl hs hd
/-- B: the heap behind the tuple's making -/
theorem s_forNU (h : EvU tl σ H xs) (Pv : Hp → Nat → L2.St → Hp → Prop) (h0 : ∀ B, Ex H B → Pv B 0 σ B) (hE : ∀ B i σ' H', Pv B i σ' H' → Ex B H')
    (hs : ∀ B i x σ' H', Ex H B → xs[i]? = some x → Pv B i σ' H' → g x σ' H' fun σ2 H2 => tu { D with nx := Pv B (i + 1), ct := Pv B (i + 1), bk := D.nx } σ2 H2) (hd : ∀ B σ' H', Ex H B → Pv B xs.length σ' H' → D.nx σ' H') : tFor (iTup K tl) g tu D σ H :=
  h H (Ex.refl _) _ fun p B np e hp => ⟨p, rfl, ⟨xs, st_of hp⟩, for_tup (Pv B) (h0 B e) (fun i σ' H' _ hP => st_of (hE B i σ' H' hP _ _ hp)) (fun i x σ' H' hi hP => hs B i x σ' H' e hi hP) (fun σ' H' hP => hd B σ' H' e hP)⟩
theorem dpA_at {vs : List V} {ds : List PyData} (h : DpAll K H vs ds) : ∀ {i : Nat} {x : V}, vs[i]? = some x → ∃ d, ds[i]? = some d ∧ Dp K H x d := by
  induction ds generalizing vs with
  | nil => cases h; intro i x hx; simp at hx
  | cons d r ih =>
    cases h with
    | cons h1 h2 =>
      intro i x hx
      cases i with
      | zero => simp at hx; subst hx; exact ⟨d, rfl, h1⟩
      | succ i => exact ih h2 (by simpa using hx)
/-- over a tuple of data -/
theorem s_forDU {ta : TA} (h : EvDA K ta σ H ds) (hz : ds.length ≤ 100000) (Pv : Hp → Nat → L2.St → Hp → Prop) (h0 : ∀ B, Ex H B → Pv B 0 σ B) (hE : ∀ B i σ' H', Pv B i σ' H' → Ex B H')
    (hs : ∀ B i x d σ' H', Ex H B → ds[i]? = some d → Dp K B x d → Pv B i σ' H' → g x σ' H' fun σ2 H2 => tu { D with nx := Pv B (i + 1), ct := Pv B (i + 1), bk := D.nx } σ2 H2) (hd : ∀ B σ' H', Ex H B → Pv B ds.length σ' H' → D.nx σ' H') : tFor (iTup K (tTup ta)) g tu D σ H :=
  h H (Ex.refl _) _ fun vs H2 e2 hv => ⟨sz_of (by rw [dpA_len hv]; exact hz), fun p np => ⟨p, rfl, ⟨vs, st_of upd_same⟩, for_tup (xs := vs) (Pv (upd H2 p (.tup vs))) (h0 _ (e2.trans (Ex.new np))) (fun i σ' H' _ hP => st_of (hE _ i σ' H' hP _ _ upd_same))
    (fun i x σ' H' hi hP => by
      obtain ⟨d, hd1, hd2⟩ := dpA_at hv hi
      exact hs _ i x d σ' H' (e2.trans (Ex.new np)) hd1 (dp_mono (Ex.new np) hd2) hP) (fun σ' H' hP => hd _ σ' H' (e2.trans (Ex.new np)) (by rw [← dpA_len hv]; exact hP))⟩⟩
theorem q_forDU {ta : TA} (h : EvDA K ta σ H ds) (hz : ds.length ≤ 100000) (Pv : Hp → Nat → L2.St → Hp → Prop) (h0 : ∀ B, Ex H B → Pv B 0 σ B) (hE : ∀ B i σ' H', Pv B i σ' H' → Ex B H')
    (hs : ∀ B i x d σ' H', Ex H B → ds[i]? = some d → Dp K B x d → Pv B i σ' H' → g x σ' H' fun σ2 H2 => tu { D with nx := Pv B (i + 1), ct := Pv B (i + 1), bk := tz D } σ2 H2) (hd : ∀ B σ' H', Ex H B → Pv B ds.length σ' H' → tz D σ' H') : tSeq (tFor (iTup K (tTup ta)) g tu) tz D σ H :=
  s_forDU (D := { D with nx := tz D }) h hz Pv h0 hE hs hd
/-- a list of ints among data -/
theorem dp_inv {x : V} {ns : List Int} (h : Dp K H x (.list (ns.map .int))) : ∃ a, x = .ref a ∧ SqL K H a (ns.map V.int) := by
  cases h with
  | lst hs hd =>
    rename_i a xs
    refine ⟨a, rfl, ?_⟩
    have : ∀ (ms : List Int) (vs : List V), DpAll K H vs (ms.map .int) → vs = ms.map V.int := by
      intro ms
      induction ms with
      | nil => intro vs h; cases h; rfl
      | cons m r ih =>
        intro vs h
        rw [List.map_cons] at h
        cases h with
        | cons h1 h2 => cases h1; rw [ih _ h2]; rfl
    rw [← this ns xs hd]
    exact hs
theorem dp_invI {x : V} {i : Int} (h : Dp K H x (.int i)) : x = .int i := by cases h; rfl
theorem dp_invB {x : V} {b : Bool} (h : Dp K H x (.bool b)) : x = .bl b := by cases h; rfl
/-- a comprehension over a tuple made on the way -/
theorem el_lcNU {j : Nat} {vs : List Nat} (f : Nat → Bool) (v : Nat → V) (h : EvU tl σ H xs) (hz : xs.length ≤ 40000) (hw : ∀ x, wipe ((wipe σ vs).set j (some x)) vs = wipe σ vs)
    (ht : ∀ (i : Nat) (x : V) H1, Ex H H1 → xs[i]? = some x → EvT t ((wipe σ vs).set j (some x)) H1 (f i)) (he : ∀ (i : Nat) (x : V) H1, Ex H H1 → xs[i]? = some x → f i = true → Ev te ((wipe σ vs).set j (some x)) H1 (v i)) :
    EvL (tLc (iTup K tl) (gName j) t te vs) σ H (given xs.length f v) := fun H0 e Q q => h H0 e _ fun a H1 ha e1 hx => ⟨a, rfl, ⟨xs, st_of hx⟩, fun Dl hD =>
  lc_tup (xs := xs) (Cw H1 f v Dl) ⟨hD, Ex.new hD, upd_same⟩ (fun i H' _ p => st_of (p.2.1 a _ hx)) (fun i x H' hi p => ⟨hw x, cw_turn p (by have := (List.getElem?_eq_some_iff.mp hi).1; omega) (ht i x H1 (e.trans e1) hi) (fun hf => he i x H1 (e.trans e1) hi hf)⟩)
    (fun H' p => q Dl H' (fresh_back e1 p.1) (e1.trans p.2.1) p.2.2)⟩
theorem dp_bools {K : PySem.W.Frag} {H : Hp} : ∀ bs : List Bool, DpAll K H (bs.map V.bl) (bs.map PyData.bool)
  | [] => .nil
  | b :: r => .cons (.bl b) (dp_bools r)
theorem ed_Lb {bs : List Bool} (h : EvL te σ H (bs.map V.bl)) : EvD K te σ H (.list (bs.map .bool)) := fun H1 e Q q => h H1 e Q fun p H2 n e2 a => q _ H2 e2 (.lst (sq_of a) (dp_bools bs))
end
section
variable {K : PySem.W.Frag} {mg : Str → Option Value} {CA CC CN C C' : Addr} {σ : L2.St} {H H' : Hp} {ta tb tc te tx tl : TE} {t u : TT} {x y z v : V} {r : R2} {D : Ends} {tu tw tz : TS} {g : TG} {xs ys : List V} {ds : List PyData}
theorem ed_bl {b : Bool} (h : Ev te σ H (.bl b)) : EvD K te σ H (.bool b) := ed_ev h (.bl b)
theorem ev_fldPM (T : Ts K mg CA CC CN) {i : Int} (h : EvNever CN te σ H i) : Ev (tFld K te "place") σ H (.int i) := fun H1 e Q q =>
  h H1 e _ fun a H2 na e2 hc => by
    obtain ⟨dx, h1⟩ := hc
    exact ⟨a, CN, dx, _, _, rfl, h1, T.tN.cl, T.nP, rfl, q H2 e2⟩
theorem q_asgC {i : Nat} {ns : List Int} (h : EvComes CC te σ H ns) (k : ∀ x p H1, H x = none → H p = none → Ex H H1 → IsComes CC H1 x p ns → tz D (σ.set i (some (.ref x))) H1) : tSeq (tAsg te (gName i)) tz D σ H := h H (Ex.refl _) _ fun x p H1 nx np e hc => k x p H1 nx np e hc
theorem q_asgN {i : Nat} {n : Int} (h : EvNever CN te σ H n) (k : ∀ x H1, H x = none → Ex H H1 → IsNever CN H1 x n → tz D (σ.set i (some (.ref x))) H1) : tSeq (tAsg te (gName i)) tz D σ H := h H (Ex.refl _) _ fun x H1 nx e hc => k x H1 nx e hc
theorem rd_asgTup {ta : TA} (h : ta σ H fun xs H1 => xs.length ≤ sizeLine ∧ ∀ p, H1 p = none → g (.ref p) σ (upd H1 p (.tup xs)) (tz D)) : tSeq (tAsg (tTup ta) g) tz D σ H := h
theorem rd_cons {tr : TA} {Q : List V → Hp → Prop} (h : te σ H fun x H1 => tr σ H1 fun xs H2 => Q (x :: xs) H2) : tCons te tr σ H Q := h
theorem rd_nil {Q : List V → Hp → Prop} (h : Q [] H) : tNil σ H Q := h
/-- list(range(n)) -/
theorem el_listRg {n : Nat} (h : Ev te σ H (.int (n : Int))) (hn : n ≤ 1000) : EvL (tLstRg (tRg1 te)) σ H (((List.range n).map fun i : Nat => (i : Int)).map V.int) := fun H1 e Q q =>
  h H1 e _ fun H2 e2 => ⟨n, rfl, ⟨by omega, by omega, by omega, by omega⟩, fun p np => q p _ (fresh_back e2 np) (e2.trans (Ex.new np)) (by
    rw [upd_same]
    congr 2
    unfold rgV
    rw [List.map_map, show ((n : Int) - 0).toNat = n by omega]
    apply List.map_congr_left
    intro i _
    show V.int (0 + (i : Int)) = V.int (i : Int)
    rw [Int.zero_add])⟩
theorem q_forNU (h : EvU tl σ H xs) (Pv : Hp → Nat → L2.St → Hp → Prop) (h0 : ∀ B, Ex H B → Pv B 0 σ B) (hE : ∀ B i σ' H', Pv B i σ' H' → Ex B H')
    (hs : ∀ B i x σ' H', Ex H B → xs[i]? = some x → Pv B i σ' H' → g x σ' H' fun σ2 H2 => tu { D with nx := Pv B (i + 1), ct := Pv B (i + 1), bk := tz D } σ2 H2) (hd : ∀ B σ' H', Ex H B → Pv B xs.length σ' H' → tz D σ' H') : tSeq (tFor (iTup K tl) g tu) tz D σ H := s_forNU (D := { D with nx := tz D }) h Pv h0 hE hs hd
/-- over a tuple made on the way, its place told -/
theorem s_forNUa (h : EvU tl σ H xs) (Pv : Addr → Nat → L2.St → Hp → Prop) (h0 : ∀ p H1, H p = none → Ex H H1 → H1 p = some (.tup xs) → Pv p 0 σ H1) (hl : ∀ p i σ' H', i ≤ xs.length → Pv p i σ' H' → SqT K H' p xs)
    (hs : ∀ p i x σ' H', xs[i]? = some x → Pv p i σ' H' → g x σ' H' fun σ2 H2 => tu { D with nx := Pv p (i + 1), ct := Pv p (i + 1), bk := D.nx } σ2 H2) (hd : ∀ p σ' H', Pv p xs.length σ' H' → D.nx σ' H') : tFor (iTup K tl) g tu D σ H :=
  h H (Ex.refl _) _ fun p B np e hp => ⟨p, rfl, ⟨xs, st_of hp⟩, for_tup (Pv p) (h0 p B np e hp) (fun i σ' H' hi hP => hl p i σ' H' hi hP) (fun i x σ' H' hi hP => hs p i x σ' H' hi hP) (fun σ' H' hP => hd p σ' H' hP)⟩
theorem q_forNUa (h : EvU tl σ H xs) (Pv : Addr → Nat → L2.St → Hp → Prop) (h0 : ∀ p H1, H p = none → Ex H H1 → H1 p = some (.tup xs) → Pv p 0 σ H1) (hl : ∀ p i σ' H', i ≤ xs.length → Pv p i σ' H' → SqT K H' p xs)
    (hs : ∀ p i x σ' H', xs[i]? = some x → Pv p i σ' H' → g x σ' H' fun σ2 H2 => tu { D with nx := Pv p (i + 1), ct := Pv p (i + 1), bk := tz D } σ2 H2) (hd : ∀ p σ' H', Pv p xs.length σ' H' → tz D σ' H') : tSeq (tFor (iTup K tl) g tu) tz D σ H := s_forNUa (D := { D with nx := tz D }) h Pv h0 hl hs hd
end
theorem upd_none {H : Hp} {a p : Addr} {o : HO} (h : (upd H a o) p = none) : H p = none ∧ p ≠ a := by
  have hn : p ≠ a := fun e => by subst e; rw [upd_same] at h; cases h
  rw [upd_ne hn] at h
  exact ⟨h, hn⟩
theorem at_ints {ns : List Int} {i : Nat} (hi : i < ns.length) : atI (ns.map V.int) (i : Int) = some (.int (ns.getD i 0)) := by
  refine atI_nat ?_
  rw [List.getElem?_map, List.getElem?_eq_getElem hi, List.getD_eq_getElem?_getD, List.getElem?_eq_getElem hi]
  rfl
theorem given_some {p : List Int} (hp : IsPat p) {t : Int} (ht : 0 < t) : given (knownF p) (fun i => decide (((p.count (i : Int) : Nat) : Int) = t)) (fun i => V.int (i : Int)) = (someF p t).map V.int := by
  rw [some_prog hp, if_pos ht]
  unfold given
  rw [List.filter_map, List.map_map]
  rfl
theorem map_length (ns : List Int) : (ns.map V.int).length = ns.length := List.length_map _
end Oa
/-! lists of data, made and gone through -/
namespace Oa
open PySem PySem.Spec PyProof.Rows L2 Evl
def dRow (ns : List Int) : PyData := .list (ns.map .int)
def dRows (xss : List (List Int)) : List PyData := xss.map dRow
/-- a heap without one place -/
def del (H : Hp) (X : Addr) : Hp := fun a => if a = X then none else H a
theorem del_ne {H : Hp} {X a : Addr} (h : a ≠ X) : del H X a = H a := by unfold del; rw [if_neg h]
theorem del_ex (H : Hp) (X : Addr) : Ex (del H X) H := fun a o h => by
  unfold del at h
  by_cases e : a = X
  · rw [if_pos e] at h; cases h
  · rw [if_neg e] at h; exact h
theorem ex_del {H H' : Hp} {X : Addr} (e : Ex H H') (h : H X = none) : Ex H (del H' X) := fun a o ha => by
  rw [del_ne (ne_of_none ha h)]; exact e a o ha
theorem del_mono {H H' : Hp} {X : Addr} (e : Ex H H') : Ex (del H X) (del H' X) := fun a o h => by
  unfold del at h
  by_cases q : a = X
  · rw [if_pos q] at h; cases h
  · rw [if_neg q] at h; rw [del_ne q]; exact e a o h
theorem del_upd {H : Hp} {X : Addr} {o : HO} : del (upd H X o) X = del H X := by
  funext a
  unfold del
  by_cases q : a = X
  · rw [if_pos q, if_pos q]
  · rw [if_neg q, if_neg q, upd_ne q]
theorem del_put {H : Hp} {X : Addr} {o : HO} : Ex (del H X) (upd H X o) := fun a u h => del_ex _ X a u (by rw [del_upd]; exact h)
/-- H without what is in U and not in B -/
def old (B U H : Hp) : Hp := fun a => match B a, U a with
  | none, some _ => none
  | _, _ => H a
theorem old_some {B U H : Hp} {a : Addr} {o : HO} : old B U H a = some o ↔ H a = some o ∧ (B a = none → U a = none) := by
  unfold old
  cases hb : B a with
  | none =>
    cases hu : U a with
    | none => simp
    | some u => simp
  | some b => simp
theorem old_ex (B U H : Hp) : Ex (old B U H) H := fun a o h => (old_some.mp h).1
theorem old_mono {B U U' H H' : Hp} (e : Ex H H') (eu : Ex U' U) : Ex (old B U H) (old B U' H') := fun a o h => by
  obtain ⟨h1, h2⟩ := old_some.mp h
  exact old_some.mpr ⟨e _ _ h1, fun hb => fresh_back eu (h2 hb)⟩
/-- a change at a place that is left out -/
theorem old_put {B U H : Hp} {X : Addr} {o : HO} (hb : B X = none) (hu : U X ≠ none) : old B U (upd H X o) = old B U H := by
  funext a
  by_cases q : a = X
  · subst q
    unfold old
    rw [hb]
    cases h : U a with
    | none => exact absurd h hu
    | some u => rfl
  · unfold old
    rw [upd_ne q]
theorem old_del {B U H : Hp} {X : Addr} (hb : B X = none) (hu : U X ≠ none) : Ex (old B U H) (del H X) := fun a o h => by
  obtain ⟨h1, h2⟩ := old_some.mp h
  rw [del_ne (fun q => hu (by rw [← q]; exact h2 (by rw [q]; exact hb)))]
  exact h1
theorem ex_old {B U H : Hp} (e : Ex B H) : Ex B (old B U H) := fun a o h => old_some.mpr ⟨e _ _ h, fun q => by rw [h] at q; cases q⟩
/-- which turns give, and what -/
def gv {α : Type} (n : Nat) (f : Nat → Bool) (v : Nat → α) : List α := ((List.range n).filter f).map v
theorem gv_yes {α : Type} {n : Nat} {f : Nat → Bool} {v : Nat → α} (h : f n = true) : gv (n + 1) f v = gv n f v ++ [v n] := by
  unfold gv
  rw [List.range_succ, List.filter_append, List.map_append, List.filter_cons, if_pos h] <;> rfl
theorem gv_no {α : Type} {n : Nat} {f : Nat → Bool} {v : Nat → α} (h : f n = false) : gv (n + 1) f v = gv n f v := by
  unfold gv
  rw [List.range_succ, List.filter_append, List.map_append, List.filter_cons, if_neg (by rw [h]; decide)]
  show _ ++ [] = _
  rw [List.append_nil]
theorem gv_len {α : Type} (n : Nat) (f : Nat → Bool) (v : Nat → α) : (gv n f v).length ≤ n := by
  unfold gv
  rw [List.length_map]
  have h := List.length_filter_le f (List.range n)
  rw [List.length_range] at h
  exact h
theorem gv_all {α : Type} (n : Nat) (v : Nat → α) : gv n (fun _ => true) v = (List.range n).map v := by
  unfold gv
  rw [List.filter_eq_self.mpr (fun _ _ => rfl)]
/-- by the items of a list -/
theorem gv_list {α β : Type} (l : List α) (f : α → Bool) (v : α → β) (d : α) : gv l.length (fun i => f (l.getD i d)) (fun i => v (l.getD i d)) = (l.filter f).map v := by
  induction l with
  | nil => rfl
  | cons a r ih =>
    unfold gv at ih ⊢
    rw [List.length_cons, List.range_succ_eq_map, List.filter_cons, List.filter_cons]
    have e0 : (a :: r).getD 0 d = a := rfl
    have e1 : (List.map Nat.succ (List.range r.length)).filter (fun i => f ((a :: r).getD i d)) = ((List.range r.length).filter fun i => f (r.getD i d)).map Nat.succ := by
      rw [List.filter_map]; rfl
    have e2 : (((List.range r.length).filter fun i => f (r.getD i d)).map Nat.succ).map (fun i => v ((a :: r).getD i d)) = ((List.range r.length).filter fun i => f (r.getD i d)).map fun i => v (r.getD i d) := by
      rw [List.map_map]; rfl
    rw [e1, e0]
    cases h : f a with
    | true => simp only [if_true, List.map_cons]; rw [e2, ih, e0]
    | false => simp only [Bool.false_eq_true, if_false]; rw [e2, ih]
theorem given_gv (n : Nat) (f : Nat → Bool) (v : Nat → V) : given n f v = gv n f v := rfl
theorem gv_map {α β : Type} (n : Nat) (f : Nat → Bool) (v : Nat → α) (g : α → β) : (gv n f v).map g = gv n f fun i => g (v i) := by
  unfold gv; rw [List.map_map]; rfl
section
variable {K : PySem.W.Frag} {σ : L2.St} {H H' : Hp} {ta tb tc te tx tl : TE} {t u : TT} {x y z v : V} {r : R2} {D : Ends} {tu tw tz : TS} {g : TG} {d e : PyData} {ds es : List PyData} {xss : List (List Int)}
/-- a new list of data -/
def EvDN (K : PySem.W.Frag) (te : TE) (σ : L2.St) (H : Hp) (ds : List PyData) : Prop := ∀ H1, Ex H H1 → ∀ Q : VK, (∀ p vs H2, H1 p = none → Ex H1 H2 → H2 p = some (.lst vs) → DpAll K H2 vs ds → Q (.ref p) H2) → te σ H1 Q
/-- data that do not rest on what was made since H -/
def EvDF (K : PySem.W.Frag) (te : TE) (σ : L2.St) (H : Hp) (d : PyData) : Prop := ∀ H1, Ex H H1 → ∀ Q : VK, (∀ v H2, Ex H1 H2 → Dp K (old H H1 H2) v d → Q v H2) → te σ H1 Q
/-- a new list of such -/
def EvDNF (K : PySem.W.Frag) (te : TE) (σ : L2.St) (H : Hp) (ds : List PyData) : Prop := ∀ H1, Ex H H1 → ∀ Q : VK, (∀ p vs H2, H1 p = none → Ex H1 H2 → H2 p = some (.lst vs) → DpAll K (old H H1 H2) vs ds → Q (.ref p) H2) → te σ H1 Q
def RetD (K : PySem.W.Frag) (ds : List PyData) (H : Hp) (Q : VK) : Prop := ∀ p vs H2, H p = none → Ex H H2 → H2 p = some (.lst vs) → DpAll K H2 vs ds → Q (.ref p) H2
def SpD (K : PySem.W.Frag) (sp : Sp) (vs : List V) (H : Hp) (ds : List PyData) : Prop := ∀ H1, Ex H H1 → ∀ Q : VK, RetD K ds H1 Q → ∀ E : XK, sp vs H1 Q E
theorem EvDN.dl (h : EvDN K te σ H ds) : EvDL K te σ H ds := fun H1 e Q q => h H1 e Q fun p vs H2 _ e2 a b => q p vs H2 e2 a b
theorem EvDN.ed (h : EvDN K te σ H ds) : EvD K te σ H (.list ds) := h.dl.ed
theorem EvDF.ed (h : EvDF K te σ H d) : EvD K te σ H d := fun H1 e Q q => h H1 e Q fun v H2 e2 a => q v H2 e2 (dp_mono (old_ex _ _ _) a)
theorem EvDNF.dn (h : EvDNF K te σ H ds) : EvDN K te σ H ds := fun H1 e Q q => h H1 e Q fun p vs H2 n e2 a b => q p vs H2 n e2 a (dpA_mono (old_ex _ _ _) b)
theorem edf_L {ns : List Int} (h : EvL te σ H (ns.map V.int)) : EvDF K te σ H (dRow ns) := fun H1 e Q q => h H1 e Q fun p H2 n e2 a => q _ H2 e2 (.lst (sq_of (old_some.mpr ⟨a, fun _ => n⟩)) (dp_ints ns))
theorem edf_ev (h : Ev te σ H v) (hd : Dp K H v d) : EvDF K te σ H d := fun H1 e Q q => h H1 e Q fun H2 e2 => q v H2 e2 (dp_mono (ex_old (e.trans e2)) hd)
theorem edf_int {i : Int} (h : Ev te σ H (.int i)) : EvDF K te σ H (.int i) := edf_ev h (.int i)
theorem edn_call {sp : Sp} {dvs vs : List V} {E : XK} {ta : TA} (h : EvA ta σ H vs) (hs : SpD K sp (vs ++ dvs) H ds) : EvDN K (tCall sp dvs E ta) σ H ds := fun H1 e Q q =>
  h H1 e _ fun H2 e2 => hs H2 (e.trans e2) Q (fun p ws H3 n e3 a b => q p ws H3 (fresh_back e2 n) (e2.trans e3) a b) E
/-- a call that is handed data alone -/
theorem el_callD {sp : Sp} {E : XK} {xs : List V} (h : EvD K te σ H d) (hs : ∀ v H1, Ex H H1 → Dp K H1 v d → SpL sp [v] H1 xs) : EvL (tCall sp [] E (tCons te tNil)) σ H xs := fun H1 e Q q =>
  h H1 e _ fun v H2 e2 a => hs v H2 (e.trans e2) a H2 (Ex.refl _) Q (fun p3 H3 n3 e3 a3 => q p3 H3 (fresh_back e2 n3) (e2.trans e3) a3) E
theorem ev_callD {sp : Sp} {E : XK} (h : EvD K te σ H d) (hs : ∀ v H1, Ex H H1 → Dp K H1 v d → SpV sp [v] H1 z) : Ev (tCall sp [] E (tCons te tNil)) σ H z := fun H1 e Q q =>
  h H1 e _ fun v H2 e2 a => hs v H2 (e.trans e2) a H2 (Ex.refl _) Q (fun H3 e3 => q H3 (e2.trans e3)) E
def Cd (K : PySem.W.Frag) (H : Hp) (f : Nat → Bool) (v : Nat → PyData) (Dl : Addr) (i : Nat) (H' : Hp) : Prop := H Dl = none ∧ Ex H H' ∧ ∃ vs, H' Dl = some (.lst vs) ∧ DpAll K (del H' Dl) vs (gv i f v)
theorem cd_start {H1 : Hp} {f : Nat → Bool} {v : Nat → PyData} {Dl : Addr} (h : H1 Dl = none) : Cd K H1 f v Dl 0 (upd H1 Dl (.lst [])) := ⟨h, Ex.new h, [], upd_same, .nil⟩
theorem cd_turn {f : Nat → Bool} {v : Nat → PyData} {Dl : Addr} {i : Nat} {σ2 : L2.St} (p : Cd K H f v Dl i H') (hi : i < 50000) (ht : EvT t σ2 H (f i)) (he : f i = true → EvDF K te σ2 H (v i)) :
    t σ2 H' fun b H3 => if b = true then te σ2 H3 fun y H4 => ∃ acc, H4 Dl = some (.lst acc) ∧ acc.length < sizeLine ∧ Cd K H f v Dl (i + 1) (upd H4 Dl (.lst (acc ++ [y]))) else Cd K H f v Dl (i + 1) H3 := by
  obtain ⟨p1, p2, vs, p3, p4⟩ := p
  refine ht H' p2 _ fun H3 e3 => ?_
  cases hf : f i with
  | true =>
    show te σ2 H3 fun y H4 => ∃ acc, H4 Dl = some (.lst acc) ∧ acc.length < sizeLine ∧ Cd K H f v Dl (i + 1) (upd H4 Dl (.lst (acc ++ [y])))
    refine he hf H3 (p2.trans e3) _ fun w H4 e4 hD => ⟨vs, e4 Dl _ (e3 Dl _ p3), sz_lt ?_, p1, Ex.mut ((p2.trans e3).trans e4) p1, vs ++ [w], upd_same, ?_⟩
    · rw [dpA_len p4]; have := gv_len i f v; omega
    · rw [gv_yes hf, del_upd]
      refine dpA_app (dpA_mono (del_mono (e3.trans e4)) p4) (.cons (dp_mono (old_del p1 ?_) hD) .nil)
      rw [e3 Dl _ p3]; exact fun q => nomatch q
  | false =>
    show Cd K H f v Dl (i + 1) H3
    refine ⟨p1, p2.trans e3, vs, e3 Dl _ p3, ?_⟩
    rw [gv_no hf]
    exact dpA_mono (del_mono e3) p4
theorem cd_end {H1 : Hp} {f : Nat → Bool} {v : Nat → PyData} {Dl : Addr} {n : Nat} {Q : VK} (q : ∀ p vs H2, H p = none → Ex H H2 → H2 p = some (.lst vs) → DpAll K H2 vs (gv n f v) → Q (.ref p) H2) (e1 : Ex H H1) (p : Cd K H1 f v Dl n H') : Q (.ref Dl) H' := by
  obtain ⟨p1, p2, vs, p3, p4⟩ := p
  exact q Dl vs H' (fresh_back e1 p1) (e1.trans p2) p3 (dpA_mono (del_ex _ _) p4)
/-- [data for i in range(n)] -/
theorem edn_lcR1 {ta : TA} {j : Nat} {vs : List Nat} {n : Int} (f : Nat → Bool) (v : Nat → PyData) (h : EvA ta σ H [.int n]) (hn : 0 ≤ n ∧ n ≤ 40000) (hw : ∀ x, wipe ((wipe σ vs).set j (some x)) vs = wipe σ vs)
    (ht : ∀ (i : Nat) H1, Ex H H1 → (i : Int) < n → EvT t ((wipe σ vs).set j (some (.int (i : Int)))) H1 (f i)) (he : ∀ (i : Nat) H1, Ex H H1 → (i : Int) < n → f i = true → EvDF K te ((wipe σ vs).set j (some (.int (i : Int)))) H1 (v i)) :
    EvDN K (tLc (iRng1 ta) (gName j) t te vs) σ H (gv n.toNat f v) := fun H0 e Q q => h H0 e _ fun H1 e1 => ⟨n, rfl, by omega, by omega, fun Dl hD =>
  lc_range (lo := 0) (n := n.toNat) (Cd K H1 f v Dl) (cd_start hD) (fun i H' hi p => by
    have e0 : (0 : Int) + (i : Int) = (i : Int) := Int.zero_add _
    show wipe ((wipe σ vs).set j (some (.int ((0 : Int) + (i : Int))))) vs = wipe σ vs ∧ t ((wipe σ vs).set j (some (.int ((0 : Int) + (i : Int))))) H' fun b H3 => if b = true then te ((wipe σ vs).set j (some (.int ((0 : Int) + (i : Int))))) H3 fun y H4 => ∃ acc, H4 Dl = some (.lst acc) ∧ acc.length < sizeLine ∧ Cd K H1 f v Dl (i + 1) (upd H4 Dl (.lst (acc ++ [y]))) else Cd K H1 f v Dl (i + 1) H3
    rw [e0]
    exact ⟨hw _, cd_turn p (by omega) (ht i H1 (e.trans e1) (by omega)) (fun hf => he i H1 (e.trans e1) (by omega) hf)⟩) (fun H' p => cd_end q e1 p)⟩
/-- the same, away from what was made since B -/
def Cf (K : PySem.W.Frag) (B H : Hp) (f : Nat → Bool) (v : Nat → PyData) (Dl : Addr) (i : Nat) (H' : Hp) : Prop := B Dl = none ∧ H Dl = none ∧ Ex B H ∧ Ex H H' ∧ ∃ vs, H' Dl = some (.lst vs) ∧ DpAll K (old B (upd H Dl (.lst [])) H') vs (gv i f v)
theorem cf_turn {B : Hp} {f : Nat → Bool} {v : Nat → PyData} {Dl : Addr} {i : Nat} {σ2 : L2.St} (p : Cf K B H f v Dl i H') (hi : i < 50000) (ht : EvT t σ2 B (f i)) (he : f i = true → EvDF K te σ2 B (v i)) :
    t σ2 H' fun b H3 => if b = true then te σ2 H3 fun y H4 => ∃ acc, H4 Dl = some (.lst acc) ∧ acc.length < sizeLine ∧ Cf K B H f v Dl (i + 1) (upd H4 Dl (.lst (acc ++ [y]))) else Cf K B H f v Dl (i + 1) H3 := by
  obtain ⟨p0, p1, pb, p2, vs, p3, p4⟩ := p
  refine ht H' (pb.trans p2) _ fun H3 e3 => ?_
  have ne : upd H Dl (.lst []) Dl ≠ none := by rw [upd_same]; exact fun q => nomatch q
  have eU : ∀ H5, Ex H3 H5 → Ex (old B (upd H Dl (.lst [])) H') (old B (upd H Dl (.lst [])) H5) := fun H5 e5 => old_mono (e3.trans e5) (Ex.refl _)
  cases hf : f i with
  | true =>
    show te σ2 H3 fun y H4 => ∃ acc, H4 Dl = some (.lst acc) ∧ acc.length < sizeLine ∧ Cf K B H f v Dl (i + 1) (upd H4 Dl (.lst (acc ++ [y])))
    refine he hf H3 (pb.trans (p2.trans e3)) _ fun w H4 e4 hD => ⟨vs, e4 Dl _ (e3 Dl _ p3), sz_lt ?_, p0, p1, pb, Ex.mut ((p2.trans e3).trans e4) p1, vs ++ [w], upd_same, ?_⟩
    · rw [dpA_len p4]; have := gv_len i f v; omega
    · rw [gv_yes hf, old_put p0 ne]
      refine dpA_app (dpA_mono (eU H4 e4) p4) (.cons (dp_mono (fun a o ha => ?_) hD) .nil)
      obtain ⟨q1, q2⟩ := old_some.mp ha
      refine old_some.mpr ⟨q1, fun hb => ?_⟩
      have q3 := q2 hb
      by_cases qa : a = Dl
      · rw [qa, e3 Dl _ p3] at q3; cases q3
      · rw [upd_ne qa]; exact fresh_back (p2.trans e3) q3
  | false =>
    show Cf K B H f v Dl (i + 1) H3
    refine ⟨p0, p1, pb, p2.trans e3, vs, e3 Dl _ p3, ?_⟩
    rw [gv_no hf]
    exact dpA_mono (eU H3 (Ex.refl _)) p4
theorem ednf_lcR1 {ta : TA} {j : Nat} {vs : List Nat} {n : Int} (f : Nat → Bool) (v : Nat → PyData) (h : EvA ta σ H [.int n]) (hn : 0 ≤ n ∧ n ≤ 40000) (hw : ∀ x, wipe ((wipe σ vs).set j (some x)) vs = wipe σ vs)
    (ht : ∀ (i : Nat), (i : Int) < n → EvT t ((wipe σ vs).set j (some (.int (i : Int)))) H (f i)) (he : ∀ (i : Nat), (i : Int) < n → f i = true → EvDF K te ((wipe σ vs).set j (some (.int (i : Int)))) H (v i)) :
    EvDNF K (tLc (iRng1 ta) (gName j) t te vs) σ H (gv n.toNat f v) := fun H0 e Q q => h H0 e _ fun H1 e1 => ⟨n, rfl, by omega, by omega, fun Dl hD =>
  lc_range (lo := 0) (n := n.toNat) (Cf K H H1 f v Dl) ⟨fresh_back (e.trans e1) hD, hD, e.trans e1, Ex.new hD, [], upd_same, .nil⟩ (fun i H' hi p => by
    have e0 : (0 : Int) + (i : Int) = (i : Int) := Int.zero_add _
    show wipe ((wipe σ vs).set j (some (.int ((0 : Int) + (i : Int))))) vs = wipe σ vs ∧ t ((wipe σ vs).set j (some (.int ((0 : Int) + (i : Int))))) H' fun b H3 => if b = true then te ((wipe σ vs).set j (some (.int ((0 : Int) + (i : Int))))) H3 fun y H4 => ∃ acc, H4 Dl = some (.lst acc) ∧ acc.length < sizeLine ∧ Cf K H H1 f v Dl (i + 1) (upd H4 Dl (.lst (acc ++ [y]))) else Cf K H H1 f v Dl (i + 1) H3
    rw [e0]
    exact ⟨hw _, cf_turn p (by omega) (ht i (by omega)) (fun hf => he i (by omega) hf)⟩) (fun H' p => by
    obtain ⟨p0, p1, pb, p2, vs, p3, p4⟩ := p
    exact q Dl vs H' (fresh_back e1 p1) (e1.trans p2) p3 (dpA_mono (old_mono (Ex.refl _) (e1.trans (Ex.new p1))) p4))⟩
/-- [data for x in a list of flat things] -/
theorem edn_lcL {a : Addr} {xs : List V} {j : Nat} {vs : List Nat} (f : Nat → Bool) (v : Nat → PyData) (h : Ev tl σ H (.ref a)) (hx : SqL K H a xs) (hz : xs.length ≤ 40000) (hw : ∀ x, wipe ((wipe σ vs).set j (some x)) vs = wipe σ vs)
    (ht : ∀ (i : Nat) (x : V) H1, Ex H H1 → xs[i]? = some x → EvT t ((wipe σ vs).set j (some x)) H1 (f i)) (he : ∀ (i : Nat) (x : V) H1, Ex H H1 → xs[i]? = some x → f i = true → EvDF K te ((wipe σ vs).set j (some x)) H1 (v i)) :
    EvDN K (tLc (iList K tl) (gName j) t te vs) σ H (gv xs.length f v) := fun H0 e Q q => h H0 e _ fun H1 e1 => ⟨a, rfl, ⟨xs, ex_l (e.trans e1) hx⟩, fun Dl hD =>
  lc_list (xs := xs) (Cd K H1 f v Dl) (cd_start hD) (fun i H' _ p => ex_l ((e.trans e1).trans p.2.1) hx) (fun i x H' hi p => ⟨hw x, cd_turn p (by have := (List.getElem?_eq_some_iff.mp hi).1; omega) (ht i x H1 (e.trans e1) hi) (fun hf => he i x H1 (e.trans e1) hi hf)⟩)
    (fun H' p => cd_end q e1 p)⟩
theorem dp_unlist (h : Dp K H v (.list ds)) : ∃ a xs, v = .ref a ∧ SqL K H a xs ∧ DpAll K H xs ds := by
  cases h with
  | lst hs hd => exact ⟨_, _, rfl, hs, hd⟩
/-- [data for x in a list of data] -/
theorem edn_lcD {j : Nat} {vs : List Nat} (f : Nat → Bool) (v : Nat → PyData) (h : EvD K tl σ H (.list ds)) (hz : ds.length ≤ 40000) (hw : ∀ x, wipe ((wipe σ vs).set j (some x)) vs = wipe σ vs)
    (ht : ∀ (i : Nat) (x : V) (d : PyData) H1, Ex H H1 → ds[i]? = some d → Dp K H1 x d → EvT t ((wipe σ vs).set j (some x)) H1 (f i)) (he : ∀ (i : Nat) (x : V) (d : PyData) H1, Ex H H1 → ds[i]? = some d → Dp K H1 x d → f i = true → EvDF K te ((wipe σ vs).set j (some x)) H1 (v i)) :
    EvDN K (tLc (iList K tl) (gName j) t te vs) σ H (gv ds.length f v) := fun H0 e Q q => h H0 e _ fun w H1 e1 hd => by
  obtain ⟨a, xs, rfl, hx, hds⟩ := dp_unlist hd
  have hl := dpA_len hds
  refine ⟨a, rfl, ⟨xs, hx⟩, fun Dl hD => lc_list (xs := xs) (Cd K H1 f v Dl) (cd_start hD) (fun i H' _ p => ex_l p.2.1 hx) (fun i x H' hi p => ⟨hw x, ?_⟩) (fun H' p => cd_end q e1 (by rw [← hl]; exact p))⟩
  obtain ⟨d, h1, h2⟩ := dpA_at hds hi
  exact cd_turn p (by have := (List.getElem?_eq_some_iff.mp hi).1; omega) (ht i x d H1 (e.trans e1) h1 h2) (fun hf => he i x d H1 (e.trans e1) h1 h2 hf)
/-- [a flat thing for x in a list of data] -/
theorem el_lcD {j : Nat} {vs : List Nat} (f : Nat → Bool) (v : Nat → V) (h : EvD K tl σ H (.list ds)) (hz : ds.length ≤ 40000) (hw : ∀ x, wipe ((wipe σ vs).set j (some x)) vs = wipe σ vs)
    (ht : ∀ (i : Nat) (x : V) (d : PyData) H1, Ex H H1 → ds[i]? = some d → Dp K H1 x d → EvT t ((wipe σ vs).set j (some x)) H1 (f i)) (he : ∀ (i : Nat) (x : V) (d : PyData) H1, Ex H H1 → ds[i]? = some d → Dp K H1 x d → f i = true → Ev te ((wipe σ vs).set j (some x)) H1 (v i)) :
    EvL (tLc (iList K tl) (gName j) t te vs) σ H (given ds.length f v) := fun H0 e Q q => h H0 e _ fun w H1 e1 hd => by
  obtain ⟨a, xs, rfl, hx, hds⟩ := dp_unlist hd
  have hl := dpA_len hds
  refine ⟨a, rfl, ⟨xs, hx⟩, fun Dl hD => lc_list (xs := xs) (Cw H1 f v Dl) ⟨hD, Ex.new hD, upd_same⟩ (fun i H' _ p => ex_l p.2.1 hx) (fun i x H' hi p => ⟨hw x, ?_⟩) (fun H' p => q Dl H' (fresh_back e1 p.1) (e1.trans p.2.1) (by rw [← hl]; exact p.2.2))⟩
  obtain ⟨d, h1, h2⟩ := dpA_at hds hi
  exact cw_turn p (by have := (List.getElem?_eq_some_iff.mp hi).1; omega) (ht i x d H1 (e.trans e1) h1 h2) (fun hf => he i x d H1 (e.trans e1) h1 h2 hf)
/-- all([.. for x in a list of data]), each True -/
theorem ev_allD {j : Nat} {vs : List Nat} (h : EvD K tl σ H (.list ds)) (hz : ds.length ≤ 40000) (hw : ∀ x, wipe ((wipe σ vs).set j (some x)) vs = wipe σ vs)
    (he : ∀ (i : Nat) (x : V) (d : PyData) H1, Ex H H1 → ds[i]? = some d → Dp K H1 x d → Ev te ((wipe σ vs).set j (some x)) H1 (.bl true)) : Ev (tCB (rAll K) (tCons (tLc (iList K tl) (gName j) tYes te vs) tNil)) σ H (.bl true) :=
  ev_is (ev_all (bs := List.replicate ds.length true) (el_is (el_lcD (fun _ => true) (fun _ => .bl true) h hz hw (fun _ _ _ _ _ _ _ => et_yes) (fun i x d H1 e hi hd _ => he i x d H1 e hi hd)) (by rw [given_all, range_true]))) (by rw [rep_true])
theorem edn_lst {ta : TA} (h : EvDA K ta σ H ds) (hl : ds.length ≤ 100000) : EvDN K (tLst ta) σ H ds := fun H1 e Q q =>
  h H1 e _ fun vs H2 e2 hs => ⟨sz_of (by rw [dpA_len hs]; exact hl), fun p hp => q p vs _ (fresh_back e2 hp) (e2.trans (Ex.new hp)) upd_same (dpA_mono (Ex.new hp) hs)⟩
/-- for x in a list of data -/
theorem s_forD (h : EvD K tl σ H (.list ds)) (Pv : Hp → Nat → L2.St → Hp → Prop) (h0 : ∀ B, Ex H B → Pv B 0 σ B) (hE : ∀ B i σ' H', Pv B i σ' H' → Ex B H')
    (hs : ∀ B i x d σ' H', Ex H B → ds[i]? = some d → Dp K B x d → Pv B i σ' H' → g x σ' H' fun σ2 H2 => tu { D with nx := Pv B (i + 1), ct := Pv B (i + 1), bk := D.nx } σ2 H2) (hd : ∀ B σ' H', Ex H B → Pv B ds.length σ' H' → D.nx σ' H') : tFor (iList K tl) g tu D σ H :=
  h H (Ex.refl _) _ fun v B e2 hv => by
    obtain ⟨a, xs, rfl, hx, hds⟩ := dp_unlist hv
    refine ⟨a, rfl, ⟨xs, hx⟩, for_list (xs := xs) (Pv B) (h0 _ e2) (fun i σ' H' _ hP => ex_l (hE _ i σ' H' hP) hx) (fun i x σ' H' hi hP => ?_) (fun σ' H' hP => hd _ σ' H' e2 (by rw [← dpA_len hds]; exact hP))⟩
    obtain ⟨d, h1, h2⟩ := dpA_at hds hi
    exact hs _ i x d σ' H' e2 h1 h2 hP
theorem q_forD (h : EvD K tl σ H (.list ds)) (Pv : Hp → Nat → L2.St → Hp → Prop) (h0 : ∀ B, Ex H B → Pv B 0 σ B) (hE : ∀ B i σ' H', Pv B i σ' H' → Ex B H')
    (hs : ∀ B i x d σ' H', Ex H B → ds[i]? = some d → Dp K B x d → Pv B i σ' H' → g x σ' H' fun σ2 H2 => tu { D with nx := Pv B (i + 1), ct := Pv B (i + 1), bk := tz D } σ2 H2) (hd : ∀ B σ' H', Ex H B → Pv B ds.length σ' H' → tz D σ' H') : tSeq (tFor (iList K tl) g tu) tz D σ H :=
  s_forD (D := { D with nx := tz D }) h Pv h0 hE hs hd
theorem q_asgD {i : Nat} (h : EvDN K te σ H ds) (k : ∀ p vs H1, H p = none → Ex H H1 → H1 p = some (.lst vs) → DpAll K H1 vs ds → tz D (σ.set i (some (.ref p))) H1) : tSeq (tAsg te (gName i)) tz D σ H := h H (Ex.refl H) _ k
theorem s_asgD {i : Nat} (h : EvDN K te σ H ds) (k : ∀ p vs H1, H p = none → Ex H H1 → H1 p = some (.lst vs) → DpAll K H1 vs ds → D.nx (σ.set i (some (.ref p))) H1) : tAsg te (gName i) D σ H := h H (Ex.refl H) _ k
theorem s_retD (h : EvDN K te σ H ds) (k : ∀ p vs H1, H p = none → Ex H H1 → H1 p = some (.lst vs) → DpAll K H1 vs ds → D.rt (.ref p) H1) : tRet te D σ H := h H (Ex.refl H) _ k
/-- l.extend(a new list of data) -/
theorem s_extD {l : Addr} {xs : List V} (hl : H l = some (.lst xs)) (ha : Ev ta σ H (.ref l)) (h : EvDN K te σ H ds) (hz : xs.length + ds.length ≤ 100000) (k : ∀ p vs H1, H p = none → Ex H H1 → H1 p = some (.lst vs) → DpAll K H1 vs ds → D.nx σ (upd H1 l (.lst (xs ++ vs)))) :
    tDrop (tBM K "list" rExtend ta (tCons te tNil)) D σ H :=
  ha H (Ex.refl _) _ fun H1 e1 => ⟨.inl ⟨rfl, _, sq_of (e1 _ _ hl)⟩, h H1 e1 _ fun p vs H2 n e2 a b => ⟨l, p, xs, vs, rfl, rfl, (e1.trans e2) _ _ hl, a, sz_of (by rw [dpA_len b]; exact hz), k p vs H2 (fresh_back e1 n) (e1.trans e2) a b⟩⟩
/-- l.extend(a new list of data), l not known at B -/
theorem s_extF {B : Hp} {l : Addr} {xs : List V} (eB : Ex B H) (nl : B l = none) (hl : H l = some (.lst xs)) (ha : Ev ta σ H (.ref l)) (h : EvDNF K te σ B ds) (hz : xs.length + ds.length ≤ 100000) (k : ∀ vs H1, Ex H H1 → DpAll K (del H1 l) vs ds → D.nx σ (upd H1 l (.lst (xs ++ vs)))) :
    tDrop (tBM K "list" rExtend ta (tCons te tNil)) D σ H :=
  ha H (Ex.refl _) _ fun H1 e1 => ⟨.inl ⟨rfl, _, sq_of (e1 _ _ hl)⟩, h H1 (eB.trans e1) _ fun p vs H2 n e2 a b => ⟨l, p, xs, vs, rfl, rfl, (e1.trans e2) _ _ hl, a, sz_of (by rw [dpA_len b]; exact hz), k vs H2 (e1.trans e2) (dpA_mono (old_del nl (by rw [e1 _ _ hl]; exact fun q => nomatch q)) b)⟩⟩
/-- x in a list of data -/
theorem ev_inD (ha : EvD K ta σ H d) (hb : EvD K tb σ H (.list ds)) (h1 : SeqAt.shaped d = true) (h2 : SeqAt.shaped (.list ds) = true) : Ev (tOp (rInD K) ta tb) σ H (.bl (ds.any fun z => PyData.eqv z d)) := fun H1 e1 Q q =>
  ha H1 e1 _ fun v H2 e2 hv => hb H2 (e1.trans e2) _ fun w H3 e3 hw => ⟨d, ds, dp_mono e3 hv, hw, h1, h2, q H3 (e2.trans e3)⟩
theorem dRows_get {xss : List (List Int)} {i : Nat} {d : PyData} (h : (dRows xss)[i]? = some d) : ∃ ns, xss[i]? = some ns ∧ d = dRow ns := by
  unfold dRows at h
  rw [List.getElem?_map] at h
  cases e : xss[i]? with
  | none => rw [e] at h; cases h
  | some n => rw [e] at h; exact ⟨n, rfl, (Option.some.inj h).symm⟩
theorem dRows_len : (dRows xss).length = xss.length := List.length_map _
end
theorem lay_rows : ∀ xss : List (List Int), PyData.canLayAll0 (dRows xss) = true
  | [] => by simp only [dRows, List.map_nil, PyData.canLayAll0]
  | n :: r => by
    have := lay_rows r
    unfold dRows at this ⊢
    simp only [List.map_cons, PyData.canLayAll0, dRow, PyData.canLay0, lay_ints, this, Bool.and_self]
theorem depth_rows : ∀ xss : List (List Int), PyData.depthAll (dRows xss) ≤ 1
  | [] => by simp only [dRows, List.map_nil, PyData.depthAll]; omega
  | n :: r => by
    have := depth_rows r
    unfold dRows at this ⊢
    simp only [List.map_cons, PyData.depthAll]
    have h1 : (dRow n).depth = 1 := by simp only [dRow, PyData.depth, depth_ints]
    rw [h1]
    omega
theorem shaped_rows (xss : List (List Int)) : SeqAt.shaped (.list (dRows xss)) = true := by
  have h := depth_rows xss
  unfold SeqAt.shaped
  rw [Bool.and_eq_true]
  refine ⟨by simp only [PyData.canLay0]; exact lay_rows xss, decide_eq_true ?_⟩
  simp only [PyData.depth]
  omega
theorem eqv_row (ns ms : List Int) : PyData.eqv (dRow ns) (dRow ms) = decide (ns = ms) := eqv_list ns ms
theorem eqv_rows : ∀ xs ys : List (List Int), PyData.eqvAll (dRows xs) (dRows ys) = decide (xs = ys)
  | [], [] => by simp [dRows, PyData.eqvAll]
  | [], _ :: _ => by simp [dRows, PyData.eqvAll]
  | _ :: _, [] => by simp [dRows, PyData.eqvAll]
  | n :: r, m :: s => by
    have := eqv_rows r s
    unfold dRows at this ⊢
    simp only [List.map_cons, PyData.eqvAll, eqv_row, this]
    by_cases h : n = m <;> by_cases h2 : r = s <;> simp [h, h2]
theorem eqv_rowsL (xs ys : List (List Int)) : PyData.eqv (.list (dRows xs)) (.list (dRows ys)) = decide (xs = ys) := by
  simp only [PyData.eqv, eqv_rows]
theorem any_rows (xss : List (List Int)) (ns : List Int) : ((dRows xss).any fun z => PyData.eqv z (dRow ns)) = decide (ns ∈ xss) := by
  induction xss with
  | nil => rfl
  | cons a r ih =>
    have e : dRows (a :: r) = dRow a :: dRows r := rfl
    rw [e, List.any_cons, ih, eqv_row]
    by_cases h : a = ns
    · subst h; simp
    · have h' : ¬ ns = a := fun q => h q.symm
      simp [h, h']
theorem dpA_rows_app {K : PySem.W.Frag} {H : Hp} {vs ws : List V} {xs ys : List (List Int)} (h1 : DpAll K H vs (dRows xs)) (h2 : DpAll K H ws (dRows ys)) : DpAll K H (vs ++ ws) (dRows (xs ++ ys)) := by
  unfold dRows
  rw [List.map_append]
  exact dpA_app h1 h2
/-! ### list + list, both read -/
def rCatS (K : PySem.W.Frag) : R2 := fun x y H Q => ∃ l b xs zs, x = .ref l ∧ y = .ref b ∧ SqL K H l xs ∧ SqL K H b zs ∧ xs.length + zs.length ≤ sizeLine ∧ ∀ p, H p = none → Q (.ref p) (upd H p (.lst (xs ++ zs)))
theorem op_catS {X : Cx} : OpR X (binaryOp .Add) (rCatS X.K) := by
  intro pins s σ H x y v u Q I rx ry h
  obtain ⟨l, b, xs, zs, rfl, rfl, hH, hB, hz, q⟩ := h
  cases rx
  cases ry
  obtain ⟨its, r, ⟨⟨cls, dd, data, sl⟩, n, ho, hc, hd0, hd⟩, hl⟩ := I.list hH
  obtain ⟨its2, r2, ⟨⟨cls2, dd2, data2, sl2⟩, n2, ho2, hc2, hd02, hd2⟩, hl2⟩ := I.list hB
  simp only at hc hd hc2 hd2
  subst hc hd hc2 hd2
  have e : its.toArray ++ its2.toArray = (its ++ its2).toArray := by simp
  refine concat_meets ⟨_, ho, rfl⟩ ⟨_, ho2, rfl⟩ noFill_list_add seq_list_add PySem.F.slot_list_add PySem.F.entry_list_add (PySem.F.args_list_add_2 _ _) (list_addW l b its.toArray its2.toArray n n2 dd dd2 sl sl2 (by rw [List.size_toArray, List.size_toArray, ← r.length, ← r2.length]; exact hz)) ⟨ho, ho2, ?_⟩
  rw [e]
  exact ⟨.ref _, _, I.lnew (t' := s.toks) (r.append r2) (by rw [List.length_append]; omega), rfl, q _ I.fresh⟩
section
variable {K : PySem.W.Frag} {σ : L2.St} {H H' : Hp} {ta tb tc te tx tl : TE}
theorem el_catS {a b : Addr} {xs ys : List V} (ha : Ev ta σ H (.ref a)) (h : SqL K H a xs) (hb : Ev tb σ H (.ref b)) (h2 : SqL K H b ys) (hl : xs.length + ys.length ≤ 100000) : EvL (tOp (rCatS K) ta tb) σ H (xs ++ ys) := fun H1 e Q q =>
  ha H1 e _ fun H2 e2 => hb H2 (e.trans e2) _ fun H3 e3 => ⟨a, b, xs, ys, rfl, rfl, ex_l (e.trans (e2.trans e3)) h, ex_l (e.trans (e2.trans e3)) h2, sz_of hl, fun p4 n4 => q p4 _ (fresh_back (e2.trans e3) n4) ((e2.trans e3).trans (Ex.new n4)) upd_same⟩
theorem el_catSN {a : Addr} {xs ys : List V} (ha : Ev ta σ H (.ref a)) (h : SqL K H a xs) (hb : EvL tb σ H ys) (hl : xs.length + ys.length ≤ 100000) : EvL (tOp (rCatS K) ta tb) σ H (xs ++ ys) := fun H1 e Q q =>
  ha H1 e _ fun H2 e2 => hb H2 (e.trans e2) _ fun p2 H3 n3 e3 a3 => ⟨a, p2, xs, ys, rfl, rfl, ex_l (e.trans (e2.trans e3)) h, sq_of a3, sz_of hl, fun p4 n4 => q p4 _ (fresh_back (e2.trans e3) n4) ((e2.trans e3).trans (Ex.new n4)) upd_same⟩
end
section
variable {K : PySem.W.Frag} {σ : L2.St} {H H' : Hp} {ta tb tc te tx tl : TE} {xs : List V} {ds : List PyData} {z : V}
/-- len of a new list of data -/
theorem ev_lenD' (h : EvDN K te σ H ds) : Ev (tCB (rLenS K) (tCons te tNil)) σ H (.int (ds.length : Int)) := fun H1 e Q q =>
  h H1 e _ fun p vs H2 n e2 a b => ⟨p, vs, rfl, Or.inl (sq_of a), by rw [dpA_len b]; exact q H2 e2⟩
theorem el_revN (ha : EvL ta σ H xs) : EvL (tRevL K ta) σ H xs.reverse := fun H1 e Q q =>
  ha H1 e _ fun a H2 na e2 h => ⟨a, xs, rfl, sq_of h, fun p n => q p _ (fresh_back e2 n) (e2.trans (Ex.new n)) upd_same⟩
/-- a call with a new list of ints ahead, a value behind -/
theorem el_callNV {sp : Sp} {E : XK} {ns ys : List Int} {v : V} (h : EvL te σ H (ns.map V.int)) (h2 : Ev tx σ H v) (hs : ∀ p H1, Ex H H1 → H1 p = some (.lst (ns.map V.int)) → SpL sp [.ref p, v] H1 (ys.map V.int)) : EvL (tCall sp [] E (tCons te (tCons tx tNil))) σ H (ys.map V.int) := fun H1 e Q q =>
  h H1 e _ fun p H2 n e2 a => h2 H2 (e.trans e2) _ fun H3 e3 => hs p H3 (e.trans (e2.trans e3)) (e3 _ _ a) H3 (Ex.refl _) Q (fun p3 H4 n3 e4 a4 => q p3 H4 (fresh_back (e2.trans e3) n3) (e2.trans (e3.trans e4)) a4) E
theorem ev_callNV {sp : Sp} {E : XK} {ns : List Int} {v : V} (h : EvL te σ H (ns.map V.int)) (h2 : Ev tx σ H v) (hs : ∀ p H1, Ex H H1 → H1 p = some (.lst (ns.map V.int)) → SpV sp [.ref p, v] H1 z) : Ev (tCall sp [] E (tCons te (tCons tx tNil))) σ H z := fun H1 e Q q =>
  h H1 e _ fun p H2 n e2 a => h2 H2 (e.trans e2) _ fun H3 e3 => hs p H3 (e.trans (e2.trans e3)) (e3 _ _ a) H3 (Ex.refl _) Q (fun H4 e4 => q H4 (e2.trans (e3.trans e4))) E
/-- l.index(data) -/
theorem ev_indexD {a : Addr} {vs : List V} {d z : PyData} {j : Nat} (ha : Ev ta σ H (.ref a)) (hs : SqL K H a vs) (hd : DpAll K H vs ds) (hb : EvD K te σ H d) (s1 : SeqAt.shaped (.list ds) = true) (s2 : SeqAt.shaped d = true) (hz : ds[j]? = some z) (he : PyData.eqv z d = true)
    (hn : ∀ (m : Nat) (z' : PyData), m < j → ds[m]? = some z' → PyData.eqv z' d = false) : Ev (tBM K "list" (rIndexD K) ta (tCons te tNil)) σ H (.int (j : Nat)) := fun H1 e Q q =>
  ha H1 e _ fun H2 e2 => ⟨.inl ⟨rfl, _, ex_l (e.trans e2) hs⟩, hb H2 (e.trans e2) _ fun v H3 e3 hv => ⟨a, v, d, ds, j, z, rfl, rfl, .lst (ex_l (e.trans (e2.trans e3)) hs) (dpA_mono (e.trans (e2.trans e3)) hd), hv, s1, s2, hz, he, hn, q H3 (e2.trans e3)⟩⟩
end
section
variable {K : PySem.W.Frag} {σ : L2.St} {H H' : Hp} {ta tb tc te tx tl : TE} {xs : List V} {ds : List PyData} {z : V}
theorem ev_callVN {sp : Sp} {E : XK} {ns : List Int} {v : V} (h2 : Ev tx σ H v) (h : EvL te σ H (ns.map V.int)) (hs : ∀ p H1, Ex H H1 → H1 p = some (.lst (ns.map V.int)) → SpV sp [v, .ref p] H1 z) : Ev (tCall sp [] E (tCons tx (tCons te tNil))) σ H z := fun H1 e Q q =>
  h2 H1 e _ fun H2 e2 => h H2 (e.trans e2) _ fun p H3 n e3 a => hs p H3 (e.trans (e2.trans e3)) a H3 (Ex.refl _) Q (fun H4 e4 => q H4 (e2.trans (e3.trans e4))) E
theorem ed_callV {d : PyData} (h : EvD K te σ H d) : EvDA K (tCons te tNil) σ H [d] := eda_cons h eda_nil
/-- a pair among data -/
theorem dp_pair {x : V} {H : Hp} {d e : PyData} (h : Dp K H x (.tuple [d, e])) : ∃ t u v, x = .ref t ∧ SqT K H t [u, v] ∧ Dp K H u d ∧ Dp K H v e := by
  cases h with
  | tup hs hd =>
    cases hd with
    | cons h1 r =>
      cases r with
      | cons h2 r2 =>
        cases r2
        exact ⟨_, _, _, rfl, hs, h1, h2⟩
end
end Oa
/-! all patterns of a length -/
namespace Oa
def nextOf (r : List Int) : List (List Int) := (List.range (knownF r + 1)).map fun k : Nat => r ++ [(k : Int)]
def patternsF : Nat → List (List Int)
  | 0 => [[]]
  | n + 1 => (patternsF n).flatMap nextOf
theorem knownF_le (p : List Int) : knownF p ≤ p.length := by
  have := firsts_len [] p
  unfold knownF
  simpa using this
theorem IsPat.unsnoc {r : List Int} {s : Int} (h : IsPat (r ++ [s])) : IsPat r ∧ 0 ≤ s ∧ s ≤ (knownF r : Int) := by
  unfold IsPat at h
  by_cases hs : s ∈ firsts [] r
  · have e : firsts [] (r ++ [s]) = firsts [] r := by rw [firsts_snoc, if_pos hs]
    have ek : knownF (r ++ [s]) = knownF r := by unfold knownF; rw [e]
    rw [e, ek] at h
    have hr : IsPat r := h
    have := (hr.mem s).mp hs
    exact ⟨hr, by omega, by omega⟩
  · have e : firsts [] (r ++ [s]) = firsts [] r ++ [s] := by rw [firsts_snoc, if_neg hs]
    have ek : knownF (r ++ [s]) = knownF r + 1 := by unfold knownF; rw [e, List.length_append]; rfl
    rw [e, ek, List.range_succ, List.map_append] at h
    have hl : (firsts [] r).length = ((List.range (knownF r)).map fun i : Nat => (i : Int)).length := by rw [List.length_map, List.length_range]; rfl
    obtain ⟨h1, h2⟩ := List.append_inj h hl
    have h3 : s = (knownF r : Int) := by simpa using h2
    exact ⟨h1, by omega, by omega⟩
theorem mem_nextOf {r p : List Int} : p ∈ nextOf r ↔ ∃ k : Nat, k ≤ knownF r ∧ p = r ++ [(k : Int)] := by
  unfold nextOf
  rw [List.mem_map]
  constructor
  · rintro ⟨k, hk, rfl⟩
    exact ⟨k, by have := List.mem_range.mp hk; omega, rfl⟩
  · rintro ⟨k, hk, rfl⟩
    exact ⟨k, List.mem_range.mpr (by omega), rfl⟩
theorem mem_patterns : ∀ (n : Nat) (p : List Int), p ∈ patternsF n ↔ IsPat p ∧ p.length = n
  | 0, p => by
    show p ∈ [[]] ↔ _
    rw [List.mem_singleton]
    constructor
    · rintro rfl; exact ⟨isPat_nil, rfl⟩
    · rintro ⟨_, h⟩; exact List.length_eq_zero_iff.mp h
  | n + 1, p => by
    show p ∈ (patternsF n).flatMap nextOf ↔ _
    rw [List.mem_flatMap]
    constructor
    · rintro ⟨r, hr, hp⟩
      obtain ⟨h1, h2⟩ := (mem_patterns n r).mp hr
      obtain ⟨k, hk, rfl⟩ := mem_nextOf.mp hp
      refine ⟨(h1.snoc ?_).1, by rw [List.length_append, h2]; rfl⟩
      by_cases e : k = knownF r
      · exact .inr (by rw [e])
      · exact .inl ((h1.mem _).mpr ⟨by omega, by omega⟩)
    · rintro ⟨h1, h2⟩
      have hne : p ≠ [] := fun q => by rw [q] at h2; simp at h2
      obtain ⟨r, s, rfl⟩ : ∃ r s, p = r ++ [s] := ⟨p.dropLast, p.getLast hne, (List.dropLast_concat_getLast hne).symm⟩
      obtain ⟨h3, h4, h5⟩ := h1.unsnoc
      refine ⟨r, (mem_patterns n r).mpr ⟨h3, by rw [List.length_append] at h2; simpa using h2⟩, mem_nextOf.mpr ⟨s.toNat, by omega, ?_⟩⟩
      rw [Int.toNat_of_nonneg h4]
def fact : Nat → Nat
  | 0 => 1
  | n + 1 => (n + 1) * fact n
theorem flat_len {l : List (List Int)} {f : List Int → List (List Int)} {m : Nat} (h : ∀ r ∈ l, (f r).length ≤ m) : (l.flatMap f).length ≤ m * l.length := by
  induction l with
  | nil => simp
  | cons a r ih =>
    rw [List.flatMap_cons, List.length_append, List.length_cons, Nat.mul_succ]
    have h1 := h a (List.mem_cons_self ..)
    have h2 := ih fun x hx => h x (List.mem_cons_of_mem _ hx)
    omega
theorem patterns_len : ∀ n : Nat, (patternsF n).length ≤ fact n
  | 0 => Nat.le_refl _
  | n + 1 => by
    show ((patternsF n).flatMap nextOf).length ≤ (n + 1) * fact n
    refine Nat.le_trans (flat_len (m := n + 1) fun r hr => ?_) (Nat.mul_le_mul_left _ (patterns_len n))
    unfold nextOf
    rw [List.length_map, List.length_range]
    have h1 := knownF_le r
    have h2 := ((mem_patterns n r).mp hr).2
    omega
theorem fact_le6 {n : Nat} (h : n ≤ 6) : fact n ≤ 720 := by
  match n, h with
  | 0, _ => decide
  | 1, _ => decide
  | 2, _ => decide
  | 3, _ => decide
  | 4, _ => decide
  | 5, _ => decide
  | 6, _ => decide
  | n + 7, h => omega
/-- the counts of all patterns of a length are the good rows of it -/
theorem mem_counts {n : Nat} {row : List Int} (h : row.length = n) : row ∈ (patternsF n).map countsF ↔ Good row := by
  rw [List.mem_map]
  constructor
  · rintro ⟨p, _, rfl⟩; exact good_counts p
  · intro hg
    obtain ⟨h1, h2⟩ := patF_ok hg (number := 0) (by decide) (manyF_pos hg)
    exact ⟨patF row 0, (mem_patterns n _).mpr ⟨h1, by rw [← countsF_len, h2, h]⟩, h2⟩
def goodB (row : List Int) : Bool := !((List.range row.length).map fun i => decide (leftF row i < 1)).any id
theorem goodB_true {row : List Int} (h : Good row) : goodB row = true := by
  unfold goodB
  rw [Bool.not_eq_true', List.any_eq_false]
  intro x hx
  obtain ⟨i, hi, rfl⟩ := List.mem_map.mp hx
  have := h i (List.mem_range.mp hi)
  simp only [id, decide_eq_true_eq]
  omega
theorem goodB_false {row : List Int} (h : ¬ Good row) : goodB row = false := by
  obtain ⟨i, _, h1, h2⟩ := firstWrong_bad h
  unfold goodB
  rw [Bool.not_eq_false', List.any_eq_true]
  exact ⟨true, List.mem_map.mpr ⟨i, List.mem_range.mpr h1, decide_eq_true h2⟩, rfl⟩
end Oa
/-! str of data; defs that are called where nothing is being shown -/
namespace Oa
open PySem PySem.Spec PyProof.Rows L2 Evl
def rStrD (K : PySem.W.Frag) : List V → Hp → VK → Prop := fun vs H Q => ∃ (a : Addr) (d : PyData), vs = [.ref a] ∧ Dp K H (.ref a) d ∧ d.showable = true ∧ d.hasDict = false ∧ d.depth ≤ 40 ∧ d.shown.length ≤ sizeLine ∧ Q (.str d.shown) H
theorem call_strD {X : Cx} (hg : X.A.guards = some []) (hu : X.A.units + 64 < cLine) : CallR X (.type "str") (rStrD X.K) := by
  intro pins s σ H vs us Q I r h
  obtain ⟨a, d, rfl, hd, hs, hn, hp, hz, q⟩ := h
  obtain ⟨u, rfl, ru⟩ := vals1 r
  obtain rfl : u = Value.ref a := ru
  obtain ⟨as, rd⟩ := Dp.reads I d (.ref a) (.ref a) hd rfl
  exact str_of_reads rd hs (fun hx => by rw [hn] at hx; cases hx) hg (by omega) (fun _ _ e => e) (fun h' u tk hk => ⟨.str d.shown, H, I.kept (t' := tk) fun b o e => hk b o e, ⟨_, rfl⟩, q⟩) hz
/-! ### the same contracts, for calls where no repr is under way -/
structure FnG (P : Program) (w : World) (K : PySem.W.Frag) (mg : Str → Option Value) (base : Heap) (k : Nat) (f : Addr) (fd : FuncData) (ps : List Str) (sp : Sp) : Prop where
  len : ∀ vs H Q E, sp vs H Q E → vs.length = ps.length
  run : ∀ (A : Around) (outer : List Env) (s : Shared) (H : Hp) (args : Args) (us : List Value) (vs : List V) (Q : VK) (E : XK), Room k A → A.guards = some [] → Env0 P w K mg base A outer s H → BindsTo s fd args (ps.zip us) → Vals vs us → sp vs H Q E →
    codeAny (model P w) A (.call (.ref f) args) (CR CX0 outer P w H s Q E) s
section
variable {P : Program} {w : World} {K : PySem.W.Frag} {mg : Str → Option Value} {base : Heap}
theorem funG {x qual : Str} {st : Stmt} {f : Addr} {fd : FuncData} {N ps : List Str} {k : Nat} {sp : Sp} (F : Fun K x qual st f fd) (S : FnScope N ps (defScope st)) (len : ∀ vs H Q E, sp vs H Q E → vs.length = ps.length)
    (hbody : ∀ (cdv : Value) (A : Around) (outer : List Env) (s : Shared) (H : Hp) (vs : List V) (Q : VK) (E : XK), Room k (A.deeper (envOfC qual (defScope st) s.heap.objs.size f cdv)) → A.guards = some [] → sp vs H Q E →
      ∃ t, PSs (cxOf CX0 P w K mg base N qual (defScope st) f cdv A outer s H E).nox (defBody st) t ∧ t { nx := fun _ H' => Q .non H', rt := Q } (start N vs) H) : FnG P w K mg base (k + 1) f fd ps sp := by
  obtain ⟨oc, od, kV, doc, pm, an, cdv, ct, osl, rfl, lk, hcd⟩ := F.ex
  constructor
  · exact len
  intro A outer s H args us vs Q E room gd env0 bnd rel hsp
  have inH : K.In s.heap := env0.mod.kin.keeps fun b o e => (env0.bs b o e).1
  have nl : s.heap.NoLimit := env0.mod.nolimit.keeps fun b o e => (env0.bs b o e).1
  refine codeAny_call_function room.depth (inH _ _ lk) rfl S.co S.gen rfl (PySem.W.codeRec_of inH hcd) (bnd _ _ _ _ (wpAny_newFunctionEnv_cells S.kind ?_ ?_))
  · rintro ⟨n, v⟩ hy
    exact (S.par n (List.of_mem_zip hy).1).imp id fun q => ⟨q, PySem.W.cellsFrom_some _ _ _ (.inl q)⟩
  · rintro env rfl sE xE
    refine ⟨nl.keeps xE.toInCall.keep, codeAny_func ?_⟩
    obtain ⟨t, ht, hq⟩ := hbody cdv A outer s H vs Q E (room.deeper _) gd hsp
    have I0 : Inv (cxOf CX0 P w K mg base N qual (defScope st) f cdv A outer s H E) [] (start N vs) H sE := inv_start S room.hd env0 (len _ _ _ _ hsp) rel xE
    refine wpAny_mono (ht.nox.run [] sE (start N vs) H _ I0 hq) (fun fl sF hs => ?_) (fun e sF hs => hs)
    match fl, hs with
    | .ret u, ⟨v, σ', H', J, rv, q⟩ => exact ⟨v, H', J.os, J.bare, J.base, J.hok, rv, q⟩
    | .next, ⟨σ', H', J, q⟩ => exact ⟨V.non, H', J.os, J.bare, J.base, J.hok, rfl, q⟩
    | .brk, ⟨_, _, _, q⟩ => exact False.elim q
    | .cont, ⟨_, _, _, q⟩ => exact False.elim q
/-- a def by its name, of this kind -/
structure DefG (P : Program) (w : World) (K : PySem.W.Frag) (mg : Str → Option Value) (base : Heap) (k : Nat) (x : Str) (ps : List Str) (sp : Sp) : Prop where
  ex : ∃ (f : Addr) (fd : FuncData), FnG P w K mg base k f fd ps sp ∧ mg x = some (.ref f) ∧ PySem.W.keepIn K (.ref f) = true ∧ Binds K fd ps []
theorem Pl.okG {x : Str} {st : Stmt} {N ps : List Str} {k : Nat} {sp : Sp} (p : Pl K mg x st ps) (S : FnScope N ps (defScope st)) (len : ∀ vs H Q E, sp vs H Q E → vs.length = ps.length)
    (hbody : ∀ (f : Addr) (cdv : Value) (A : Around) (outer : List Env) (s : Shared) (H : Hp) (vs : List V) (Q : VK) (E : XK), Room k (A.deeper (envOfC x (defScope st) s.heap.objs.size f cdv)) → A.guards = some [] → sp vs H Q E →
      ∃ t, PSs (cxOf CX0 P w K mg base N x (defScope st) f cdv A outer s H E).nox (defBody st) t ∧ t { nx := fun _ H' => Q .non H', rt := Q } (start N vs) H) : DefG P w K mg base (k + 1) x ps sp := by
  obtain ⟨f, fd, F, hm, hb⟩ := p.ex
  exact ⟨f, fd, funG F S len fun cdv A outer s H vs Q E hr hg h => hbody f cdv A outer s H vs Q E hr hg h, hm, F.kp, hb⟩
end
section
variable {X : Cx} {j k : Nat} {x : Str} {ps : List Str} {sp : Sp} {E : XK} {p pos : Pos} {e : Expr} {es : List Expr} {t : TA}
theorem pe_fnG (d : DefG X.prog X.w X.K X.mg X.base j x ps sp) (hj : j ≤ k) (hr : Room k X.A) (gd : X.A.guards = some []) (hg : Gl X x) (hx : Passes CX0 X E) (ha : PA X (e :: es) t)
    (hdb : (x == ("__debug__" : Str)) = false := by decide) (he : starEach (e :: es) X.env = (false, eval e X.env) :: starEach es X.env := by rfl) (hpl : (backTo pos (starEach es X.env)).any (·.1) = false := by rfl) :
    PE X (.Call (.Name x p) (e :: es) [] pos) (tCall sp [] E t) := by
  obtain ⟨f, fd, F, hm, hk, hb⟩ := d.ex
  refine ⟨fun pins s σ H Q I h => wpAny_Call_Name_kw (ld_glob I hg hm ?_ hdb)⟩
  refine PySem.W.callWith_K (h₀ := X.base) I.ok.mod.kin hk (thn (ha.run pos pins s σ H _ I h) fun us s1 ⟨vs, H1, I1, r, q⟩ => ⟨I1.kIn, ?_⟩) he hpl
  have hv : Vals (vs ++ []) us := by rw [List.append_nil]; exact r
  have hl : (us ++ []).length = ps.length := by rw [List.append_nil, ← hv.length]; exact F.len _ _ _ _ q
  have hb2 := hb s1 us I1.kIn hl
  rw [List.append_nil] at hb2
  refine wpAny_call (codeAny_mono (F.run X.A X.stack s1 H1 ⟨us, []⟩ us (vs ++ []) Q E (hr.mono hj) gd I1.env0 hb2 hv q) fun r s' hq => ?_)
  match r, hq with
  | .error e, hq => exact hx pins σ H1 s1 e s' I1 hq
  | .ok (.ret u), hq => exact I1.after hq
  | .ok .next, hq => exact False.elim hq
  | .ok .brk, hq => exact False.elim hq
  | .ok .cont, hq => exact False.elim hq
end
/-! ### the end of a law whose def is of this kind -/
section
variable {P : Program} {w : World} {K : PySem.W.Frag} {mg mb : Str → Option Value} {k : Nat} {fa a : Addr} {fd : FuncData} {x : Str} {sp : Sp} {sT : Shared} {vs : List Value} {ns : List Int}
abbrev lawEnd (sT : Shared) : Result → Shared → Prop := fun r s' => r = .ok (.ret (.bool true)) ∧ OldK sT.heap s'.heap ∧ s'.os = sT.os ∧ AllBare s'.gens
/-- what a call's end says of the old objects -/
theorem end_of {H : Hp} (hO : Only H) (hok : HOk P w H sT.heap) {r : Result} {s' : Shared} (h : CR CX0 [] P w H sT (fun v _ => v = .bl true) (fun _ _ _ => False) r s') : lawEnd sT r s' := by
  match r, h with
  | .error e, h => exact False.elim h
  | .ok .next, h => exact False.elim h
  | .ok .brk, h => exact False.elim h
  | .ok .cont, h => exact False.elim h
  | .ok (.ret u), ⟨v, HE, os, bare, un, hokE, rel, q⟩ =>
    have q' : v = .bl true := q
    subst q'
    obtain rfl : u = Value.bool true := rel
    refine ⟨rfl, OldK.of_keep fun b o e => ?_, os, bare⟩
    rcases hO b with z | ⟨ob, xs, z⟩
    · exact un.keep b o e z (fun m => nomatch (show b ∈ ([] : List Addr) from m)) (fun m => nomatch m)
    · obtain ⟨f1, _⟩ := hok b _ z
      obtain ⟨f2, _⟩ := hokE b _ (un.frzs b ob _ z)
      obtain rfl : o = ob := Option.some.inj (e.symm.trans f1)
      exact f2
theorem lawG (KX : K.In sT.heap) (hns : sT.heap.Ns mainGlobals mg) (hb : sT.heap.Ns builtinsNs mb) (hbb : ∀ x : Str, x ≠ "__name__" → mb x = bootBuiltins x) (hlim : sT.heap.NoLimit) (hg : sT.gens = #[])
    (ha : sT.heap.get? a = some { cls := .type "list", data := .seq vs.toArray }) (hi : IntsAre vs ns) (hl : ns.length ≤ sizeLine) (hr : Room k callerA)
    (F : ∀ base : Heap, K.In base → base.Ns mainGlobals mg → FnG P w K mg base k fa fd [x] sp) (hbind : ∀ (s : Shared) (u : Value), BindsTo s fd ⟨[u], []⟩ [(x, u)])
    (hsp : ∀ H : Hp, Only H → SqL K H a (ns.map V.int) → sp [.ref a] H (fun v _ => v = .bl true) fun _ _ _ => False) :
    codeAny (model P w) callerA (.call (.ref fa) ⟨[.ref a], []⟩) (lawEnd sT) sT := by
  have rv := vals_ints hi
  have main : ∀ H : Hp, Only H → SqL K H a (ns.map V.int) → HOk P w H sT.heap → (∀ b, H b ≠ none → b = a ∧ K.lookup a = none) → codeAny (model P w) callerA (.call (.ref fa) ⟨[.ref a], []⟩) (lawEnd sT) sT := by
    intro H hO hS hok hA
    have free : ∀ {b : Addr}, (b = a → K.lookup a = none → False) → H b = none := fun {b} hn => by
      cases q : H b with
      | none => rfl
      | some u =>
        obtain ⟨h1, h2⟩ := hA b (by rw [q]; exact fun z => nomatch z)
        exact (hn h1 h2).elim
    have noDict : ∀ {b : Addr} {o : Obj} {es : Array DictEntry} {ep : Nat}, sT.heap.get? b = some o → o.data = .dict es ep → H b = none := fun {b o es ep} e d => free fun h1 _ => by
      rw [h1, ha] at e
      obtain rfl := Option.some.inj e
      exact nomatch d
    have nsB : ∀ {b : Addr} {m : Str → Option Value}, sT.heap.Ns b m → (hidT sT.heap H).Ns b m := fun ⟨o, es, ep, e, d, r⟩ => ⟨o, es, ep, hidT_get e (noDict e d), d, r⟩
    have kB : K.In (hidT sT.heap H) := fun b o e => hidT_get (KX b o e) (free fun h1 h2 => by rw [← h1, e] at h2; cases h2)
    obtain ⟨mc, l1, l2⟩ := hlim
    have e0 : Env0 P w K mg (hidT sT.heap H) callerA [] sT H :=
      { frames := rfl, mod := ⟨kB, nsB hns, ⟨mb, nsB hb, hbb⟩, ⟨mc, nsB l1, l2⟩⟩, bs := fun b o e => of_hidT e, bsz := Nat.le_of_eq (hidT_size _ _), funs := trivial,
        frf := (fun b m => nomatch (show b ∈ ([] : List Addr) from m)), hok := hok, bare := .of_eq hg }
    exact codeAny_mono ((F _ kB (nsB hns)).run callerA [] sT H ⟨[.ref a], []⟩ [.ref a] [.ref a] _ _ hr rfl e0 (hbind sT (.ref a)) (.cons rfl .nil) (hsp H hO hS)) fun r s' h => end_of hO hok h
  cases hk : K.lookup a with
  | some o =>
    have e := KX a o hk
    rw [ha] at e
    obtain rfl := Option.some.inj e
    refine main (fun _ => none) (fun _ => .inl rfl) (.inr ⟨_, vs.toArray, _, hk, rfl, rfl, rfl, ?_, ?_⟩) (fun b u z => nomatch (show (none : Option HO) = some u from z)) (fun b z => absurd rfl z)
    · rw [List.size_toArray, hi.length]; exact hl
    · exact rv
  | none =>
    let oS : Obj := { cls := .type "list", data := .seq vs.toArray }
    let HS : Hp := upd (fun _ => none) a (.frz oS (.lst (ns.map V.int)))
    have h0 : ∀ b, b ≠ a → HS b = none := fun b hb => upd_ne hb
    have h1 : HS a = some (.frz oS (.lst (ns.map V.int))) := upd_same
    refine main HS (fun b => ?_) (.inl (.inr ⟨oS, h1⟩)) (fun b u z => ?_) (fun b z => ⟨Classical.byContradiction fun q => z (h0 b q), hk⟩)
    · by_cases q : b = a
      · exact .inr ⟨oS, _, by rw [q]; exact h1⟩
      · exact .inl (h0 b q)
    · by_cases q : b = a
      · rw [q, h1] at z
        obtain rfl := Option.some.inj z
        rw [q]
        exact ⟨ha, by rw [List.length_map]; exact hl, vs, _, rv, ha⟩
      · rw [h0 b q] at z; cases z
end
theorem walkG {l : PySem.W.OpenLaw} {n k : Nat} {q : Program} {loose : List Str} {XP : (Str → Option Value) → Heap → Prop} {YP : World → Heap → Prop} {d : DefRec} {K : Params → PySem.W.Frag} {sp : World → Sp} {x : Str}
    (hn : l.most = some n) (hn2 : n ≤ sizeLine) (hdf : d.params.defaults = []) (hr : Room k callerA) (hY : ∀ (w : World) (h : Heap), YP w h → (K w.params).In h)
    (F : ∀ (w : World) (mg : Str → Option Value) (fa : Addr) (h : Heap), (K w.params).In h → h.Ns mainGlobals mg → mg d.name = some (.ref fa) → ∃ fd : FuncData, (∀ (s : Shared) (u : Value), BindsTo s fd ⟨[u], []⟩ [(x, u)]) ∧
        ∀ base : Heap, (K w.params).In base → base.Ns mainGlobals mg → FnG l.prog w (K w.params) mg base k fa fd [x] (sp w))
    (hsp : ∀ (w : World) (H : Hp) (a : Addr) (ns : List Int), ns.length ≤ n → (∀ z ∈ ns, Builtin.Int.intBits z ≤ 1048576) → Only H → SqL (K w.params) H a (ns.map V.int) → sp w [.ref a] H (fun v _ => v = .bl true) fun _ _ _ => False) :
    PySem.W.WalkO q loose XP YP l.row.toRowW d [] (fun f vs => PySem.call f vs) :=
  Att.attach_callB hn hdf fun w s0 sT mg mb fa o pm cd doc a vs ns G Y ho hd hcd hmg hobj hints hlen hbits hg => by
    obtain ⟨fd, hb, hF⟩ := F w mg fa _ (hY w _ Y) G.T.g hmg
    exact lawG (hY w _ Y) G.T.g G.T.b G.T.builtins G.T.nolimit hg hobj hints (Nat.le_trans hlen hn2) hr hF hb fun H hO hS => hsp w H a ns hlen hbits hO hS
end Oa
/-! sorted of rows of ints -/
namespace Oa
open PySem PySem.Spec PyProof.Rows L2 Evl
/-- rows, sorted as lists are -/
def sortRows (xss : List (List Int)) : List (List Int) := xss.mergeSort (PySem.W.dataLe false dRow)
theorem sortRows_same {xss : List (List Int)} (h : xss.Pairwise fun x y => ¬ y < x) : sortRows xss = xss := by
  refine List.mergeSort_of_pairwise (h.imp fun {x y} q => ?_)
  rw [PySem.W.dataLe_eq]
  show (!PySem.W.dataLt (dRow y) (dRow x)) = true
  have e : PySem.W.dataLt (dRow y) (dRow x) = decide (y < x) := PySem.W.dataLt_ints y x
  rw [e, decide_eq_false q]
  rfl
theorem sortRows_perm (xss : List (List Int)) : (sortRows xss).Perm xss := List.mergeSort_perm _ _
def rSortedD (K : PySem.W.Frag) : List V → Hp → VK → Prop := fun vs H Q => ∃ (a : Addr) (xs : List V) (xss : List (List Int)), vs = [.ref a] ∧ SqL K H a xs ∧ DpAll K H xs (dRows xss) ∧
  ∀ p ys, H p = none → DpAll K H ys (dRows (sortRows xss)) → Q (.ref p) (upd H p (.lst ys))
theorem each_of {K : PySem.W.Frag} {H : Hp} : ∀ {xs : List V} {its : List Value} {xss : List (List Int)}, Vals xs its → DpAll K H xs (dRows xss) → PySem.W.EachIs (fun (v : Value) (b : List Int) => ∃ x : V, RelV x v ∧ Dp K H x (dRow b)) its xss
  | [], [], [], _, _ => .nil
  | x :: xs, v :: its, b :: xss, .cons r rr, .cons d dd => .cons ⟨x, r, d⟩ (each_of rr dd)
theorem of_each {K : PySem.W.Frag} {H : Hp} : ∀ {its : List Value} {xss : List (List Int)}, PySem.W.EachIs (fun (v : Value) (b : List Int) => ∃ x : V, RelV x v ∧ Dp K H x (dRow b)) its xss → ∃ xs : List V, Vals xs its ∧ DpAll K H xs (dRows xss)
  | [], [], _ => ⟨[], .nil, .nil⟩
  | v :: its, b :: xss, .cons ⟨x, r, d⟩ h => by
    obtain ⟨xs, h1, h2⟩ := of_each h
    exact ⟨x :: xs, .cons r h1, .cons d h2⟩
theorem call_sortedD {X : Cx} (hu : X.A.units + 64 < cLine) : CallR X (.builtin "sorted") (rSortedD X.K) := by
  intro pins s σ H vs us Q I r h
  obtain ⟨a, xs, xss, rfl, hs, hd, q⟩ := h
  obtain ⟨u, rfl, ru⟩ := vals1 r
  obtain rfl : u = Value.ref a := ru
  obtain ⟨its, rv, hl, hz⟩ := I.list hs
  have e := each_of rv hd
  have hlen : xss.length = xs.length := by rw [dpA_len hd, dRows_len]
  refine PySem.W.sorted_data (enc := dRow) hl.isList e (e.mono fun v b ⟨x, r, d⟩ => Dp.reads I _ x v d r) (PySem.W.AllAlike.of fun b c => PySem.W.alike_ints b c) (PySem.W.Sortable.others fun b => ⟨(fun q => nomatch q), (fun _ q => nomatch q)⟩) (by omega) (fun b _ => ?_) fun out ho he => ?_
  · have : (dRow b).depth = 1 := by simp only [dRow, PyData.depth, depth_ints]
    rw [this]; omega
  · obtain ⟨ys, h1, h2⟩ := of_each he
    obtain ⟨n, hn⟩ := sortedAll_at s.heap its out.toArray
    refine ⟨.ref _, upd H _ (.lst ys), I.laid (t' := s.toks) (fun b o e => sortedAll_old e) (Nat.le_succ _) ⟨?_, out, n, h1, hn⟩, rfl, q _ ys (I.hok.fresh (Nat.le_succ _)) h2⟩
    rw [h1.length, ho, hlen]; exact hz
section
variable {K : PySem.W.Frag} {σ : L2.St} {H H' : Hp} {ta tb tc te tx tl : TE} {xss : List (List Int)}
theorem edn_sorted {a : Addr} {xs : List V} (h : Ev te σ H (.ref a)) (hs : SqL K H a xs) (hd : DpAll K H xs (dRows xss)) : EvDN K (tCB (rSortedD K) (tCons te tNil)) σ H (dRows (sortRows xss)) := fun H1 e Q q =>
  h H1 e _ fun H2 e2 => ⟨a, xs, xss, rfl, ex_l (e.trans e2) hs, dpA_mono (e.trans e2) hd, fun p ys np hy => q p ys _ (fresh_back e2 np) (e2.trans (Ex.new np)) upd_same (dpA_mono (Ex.new np) hy)⟩
/-- data that can be shown -/
structure Shw (d : PyData) : Prop where
  s : d.showable = true
  n : d.hasDict = false
  p : d.depth ≤ 40
  z : d.shown.length ≤ sizeLine
/-- str of data -/
theorem ev_strL {ds : List PyData} (h : EvD K te σ H (.list ds)) (w : Shw (.list ds)) : Ev (tCB (rStrD K) (tCons te tNil)) σ H (.str (PyData.list ds).shown) := fun H1 e Q q =>
  h H1 e _ fun v H2 e2 hv => by
    obtain ⟨a, xs, rfl, _, _⟩ := dp_unlist hv
    exact ⟨a, _, rfl, hv, w.s, w.n, w.p, w.z, q H2 e2⟩
/-- x = sorted(a new list of ints) -/
theorem q_asgSorted {i : Nat} {ns : List Int} {D : Ends} {tz : TS} (h : EvL te σ H (ns.map V.int)) (k : ∀ (ns' : List Int) p H1, ns'.Perm ns → ns'.Pairwise (· ≤ ·) → H p = none → Ex H H1 → H1 p = some (.lst (ns'.map V.int)) → tz D (σ.set i (some (.ref p))) H1) :
    tSeq (tAsg (tCB (rSortedI K) (tCons te tNil)) (gName i)) tz D σ H :=
  h H (Ex.refl _) _ fun a H1 na e1 ha => ⟨a, ns, rfl, sq_of ha, fun ns' p pm pw np => k ns' p _ pm pw (fresh_back e1 np) (e1.trans (Ex.new np)) upd_same⟩
/-- any([.. for x in a list of data]), each False -/
theorem ev_anyD {ds : List PyData} {j : Nat} {vs : List Nat} (h : EvD K tl σ H (.list ds)) (hz : ds.length ≤ 40000) (hw : ∀ x, wipe ((wipe σ vs).set j (some x)) vs = wipe σ vs)
    (he : ∀ (i : Nat) (x : V) (d : PyData) H1, Ex H H1 → ds[i]? = some d → Dp K H1 x d → Ev te ((wipe σ vs).set j (some x)) H1 (.bl false)) : Ev (tCB (rAny K) (tCons (tLc (iList K tl) (gName j) tYes te vs) tNil)) σ H (.bl false) :=
  ev_is (ev_any (bs := List.replicate ds.length false) (el_is (el_lcD (fun _ => true) (fun _ => .bl false) h hz hw (fun _ _ _ _ _ _ _ => et_yes) (fun i x d H1 e hi hd _ => he i x d H1 e hi hd)) (by rw [given_all, List.map_const', List.length_range, List.map_replicate]))) (by
    congr 1
    rw [List.any_eq_false]
    intro x hx
    rw [List.eq_of_mem_replicate hx]
    decide)
end
def Small (p : List Int) : Prop := ∀ x ∈ p, 0 ≤ x ∧ x ≤ 40
theorem small_text : ∀ k : Fin 41, (PyData.int (((k : Nat) : Int))).shown.length ≤ 8 ∧ (PyData.int (((k : Nat) : Int))).showable = true := by decide +kernel
theorem small_int {x : Int} (h0 : 0 ≤ x) (h1 : x ≤ 40) : (PyData.int x).shown.length ≤ 8 ∧ (PyData.int x).showable = true := by
  have := small_text ⟨x.toNat, by omega⟩
  have e : (((⟨x.toNat, by omega⟩ : Fin 41) : Nat) : Int) = x := by show ((x.toNat : Nat) : Int) = x; omega
  rw [e] at this
  exact this
theorem ints_shw : ∀ (p : List Int), Small p → PyData.showableAll (p.map .int) = true ∧ PyData.hasDictAll (p.map .int) = false ∧ PyData.leavesShortAll 8 (p.map .int) = true ∧ PyData.bulkAll (p.map .int) = p.length
  | [], _ => by simp [PyData.showableAll, PyData.hasDictAll, PyData.leavesShortAll, PyData.bulkAll]
  | x :: r, h => by
    obtain ⟨h1, h2, h3, h4⟩ := ints_shw r fun y hy => h y (List.mem_cons_of_mem _ hy)
    obtain ⟨k1, k2⟩ := small_int (h x (List.mem_cons_self ..)).1 (h x (List.mem_cons_self ..)).2
    simp only [List.map_cons, PyData.showableAll, PyData.hasDictAll, PyData.leavesShortAll, PyData.bulkAll, h1, h2, h3, h4, k2, PyData.hasDict, PyData.leavesShort, PyData.bulk, decide_eq_true k1, Bool.and_self, Bool.or_self, List.length_cons, true_and]
    omega
theorem row_shw {p : List Int} (h : Small p) (hl : p.length ≤ 10000) : Shw (dRow p) := by
  obtain ⟨h1, h2, h3, h4⟩ := ints_shw p h
  refine ⟨by simp only [dRow, PyData.showable, h1], by simp only [dRow, PyData.hasDict, h2], by simp only [dRow, PyData.depth, depth_ints]; omega, ?_⟩
  have hb := PyData.shown_le_bulk 8 (by decide) (dRow p) (by simp only [dRow, PyData.leavesShort, h3])
  have hk : (dRow p).bulk = p.length := by simp only [dRow, PyData.bulk, h4]
  have hz : sizeLine = 16777216 := by decide
  rw [hk] at hb
  omega
theorem rows_shw : ∀ (xss : List (List Int)), (∀ p ∈ xss, Small p ∧ p.length ≤ 20) → PyData.showableAll (dRows xss) = true ∧ PyData.hasDictAll (dRows xss) = false ∧ PyData.leavesShortAll 8 (dRows xss) = true ∧ PyData.bulkAll (dRows xss) ≤ 21 * xss.length
  | [], _ => by simp [dRows, PyData.showableAll, PyData.hasDictAll, PyData.leavesShortAll, PyData.bulkAll]
  | p :: r, h => by
    obtain ⟨h1, h2, h3, h4⟩ := rows_shw r fun y hy => h y (List.mem_cons_of_mem _ hy)
    obtain ⟨hs, hl⟩ := h p (List.mem_cons_self ..)
    obtain ⟨k1, k2, k3, k4⟩ := ints_shw p hs
    have e : dRows (p :: r) = .list (p.map .int) :: dRows r := rfl
    simp only [e, PyData.showableAll, PyData.hasDictAll, PyData.leavesShortAll, PyData.bulkAll, h1, h2, h3, PyData.showable, PyData.hasDict, PyData.leavesShort, PyData.bulk, k1, k2, k3, k4, Bool.and_self, Bool.or_self, List.length_cons, true_and]
    omega
theorem rowsL_shw {xss : List (List Int)} (h : ∀ p ∈ xss, Small p ∧ p.length ≤ 20) (hl : xss.length ≤ 10000) : Shw (.list (dRows xss)) := by
  obtain ⟨h1, h2, h3, h4⟩ := rows_shw xss h
  refine ⟨by simp only [PyData.showable, h1], by simp only [PyData.hasDict, h2], by have := depth_rows xss; simp only [PyData.depth]; omega, ?_⟩
  have hb := PyData.shown_le_bulk 8 (by decide) (.list (dRows xss)) (by simp only [PyData.leavesShort, h3])
  have hk : (PyData.list (dRows xss)).bulk ≤ 21 * xss.length := by simp only [PyData.bulk]; exact h4
  have hz : sizeLine = 16777216 := by decide
  omega
end Oa
/-! the number of a pattern -/
namespace Oa
theorem getD_at {l : List Int} {i : Nat} (h : i < l.length) : l[i]? = some (l.getD i 0) := by
  rw [List.getD_eq_getElem?_getD, List.getElem?_eq_getElem h]; rfl
theorem take_next {l : List Int} {i : Nat} (h : i < l.length) : l.take (i + 1) = l.take i ++ [l.getD i 0] := by
  rw [List.take_add_one, getD_at h]; rfl
theorem drop_next {l : List Int} {i : Nat} (h : i < l.length) : l.drop i = l.getD i 0 :: l.drop (i + 1) := by
  rw [List.drop_eq_getElem_cons h, List.getD_eq_getElem?_getD, List.getElem?_eq_getElem h]; rfl
theorem countsF_take (p : List Int) : ∀ i, i ≤ p.length → countsF (p.take i) = (countsF p).take i := by
  intro i hi
  unfold countsF
  rw [← List.map_take, List.length_take, Nat.min_eq_left hi]
  have e : (List.range p.length).take i = List.range i := by rw [List.take_range, Nat.min_eq_left hi]
  rw [e]
  apply List.map_congr_left
  intro j hj
  have hj' := List.mem_range.mp hj
  rw [List.take_take, Nat.min_eq_left (by omega)]
  congr 2
  rw [List.getD_eq_getElem?_getD, List.getD_eq_getElem?_getD, List.getElem?_take, if_pos hj']
theorem countsF_getD {p : List Int} {i : Nat} (h : i < p.length) : (countsF p).getD i 0 = (((p.take i).count (p.getD i 0) : Nat) : Int) := by
  rw [List.getD_eq_getElem?_getD, countsF_get h]; rfl
theorem IsPat.take {p : List Int} (h : IsPat p) : ∀ k i, i + k = p.length → IsPat (p.take i)
  | 0, i, e => by rw [List.take_of_length_le (by omega)]; exact h
  | k + 1, i, e => by
    have := IsPat.take h k (i + 1) (by omega)
    rw [take_next (by omega)] at this
    exact this.unsnoc.1
theorem IsPat.take' {p : List Int} (h : IsPat p) {i : Nat} (hi : i ≤ p.length) : IsPat (p.take i) := h.take (p.length - i) i (by omega)
/-- the sign at a place is one of those that can stand there -/
theorem IsPat.some_at {p : List Int} (h : IsPat p) {i : Nat} (hi : i < p.length) : p.getD i 0 ∈ someF (p.take i) ((countsF p).getD i 0) := by
  have h1 := h.take' (i := i + 1) (by omega)
  rw [take_next hi] at h1
  obtain ⟨h2, h3, h4⟩ := h1.unsnoc
  rw [countsF_getD hi]
  refine some_iff h2 (by omega) rfl ?_
  by_cases e : p.getD i 0 = (knownF (p.take i) : Int)
  · exact .inr e
  · exact .inl ((h2.mem _).mpr ⟨h3, by omega⟩)
def digit (p : List Int) (i : Nat) : Nat := (someF (p.take i) ((countsF p).getD i 0)).idxOf (p.getD i 0)
def numFrom (p : List Int) : Nat → Nat → Int
  | _, 0 => 0
  | i, n + 1 => (digit p i : Int) * prodFrom (countsF p) (i + 1) n + numFrom p (i + 1) n
def numberF (p : List Int) : Int := numFrom p 0 p.length
theorem some_left {p : List Int} (h : IsPat p) {i : Nat} (hi : i < p.length) : ((someF (p.take i) ((countsF p).getD i 0)).length : Int) = leftF (countsF p) i :=
  some_len (countsF_take p i (by omega)) (good_counts p i (by rw [countsF_len]; exact hi))
theorem digit_lt {p : List Int} (h : IsPat p) {i : Nat} (hi : i < p.length) : (digit p i : Int) < leftF (countsF p) i := by
  rw [← some_left h hi]
  have := List.idxOf_lt_length_of_mem (h.some_at hi)
  unfold digit
  omega
theorem numFrom_bd {p : List Int} (h : IsPat p) : ∀ (n i : Nat), i + n = p.length → 0 ≤ numFrom p i n ∧ numFrom p i n < prodFrom (countsF p) i n
  | 0, i, e => by show 0 ≤ (0 : Int) ∧ (0 : Int) < 1; decide
  | n + 1, i, e => by
    obtain ⟨h1, h2⟩ := numFrom_bd h n (i + 1) (by omega)
    have hd := digit_lt h (i := i) (by omega)
    have hp : 0 < prodFrom (countsF p) (i + 1) n := prodFrom_pos (good_counts p) n (i + 1) (by rw [countsF_len]; omega)
    show 0 ≤ (digit p i : Int) * prodFrom (countsF p) (i + 1) n + numFrom p (i + 1) n ∧ (digit p i : Int) * prodFrom (countsF p) (i + 1) n + numFrom p (i + 1) n < leftF (countsF p) i * prodFrom (countsF p) (i + 1) n
    have a1 : 0 ≤ (digit p i : Int) * prodFrom (countsF p) (i + 1) n := Int.mul_nonneg (by omega) (by omega)
    have a2 : ((digit p i : Int) + 1) * prodFrom (countsF p) (i + 1) n ≤ leftF (countsF p) i * prodFrom (countsF p) (i + 1) n := Int.mul_le_mul_of_nonneg_right (by omega) (by omega)
    rw [Int.add_mul, Int.one_mul] at a2
    omega
theorem numberF_bd {p : List Int} (h : IsPat p) : 0 ≤ numberF p ∧ numberF p < manyF (countsF p) := by
  have := numFrom_bd h p.length 0 (by omega)
  unfold numberF manyF
  rw [countsF_len]
  exact this
theorem idx_getD {l : List Int} {s : Int} (h : s ∈ l) : l.getD (l.idxOf s) 0 = s := by
  induction l with
  | nil => cases h
  | cons a r ih =>
    rw [List.idxOf_cons]
    by_cases e : a = s
    · subst e; simp
    · have q : (a == s) = false := by simpa using e
      rw [q]
      show (a :: r).getD (r.idxOf s + 1) 0 = s
      rw [List.getD_cons_succ]
      exact ih ((List.mem_cons.mp h).resolve_left fun z => e z.symm)
/-- the pattern of its number is itself -/
theorem patGo_num {p : List Int} (h : IsPat p) : ∀ (n i : Nat), i + n = p.length → patGo (p.take i) ((countsF p).drop i) (prodFrom (countsF p) i n) (numFrom p i n) = p
  | 0, i, e => by
    rw [List.drop_of_length_le (by rw [countsF_len]; omega)]
    show p.take i = p
    exact List.take_of_length_le (by omega)
  | n + 1, i, e => by
    have hi : i < p.length := by omega
    obtain ⟨b1, b2⟩ := numFrom_bd h n (i + 1) (by omega)
    have hb := numFrom_bd h (n + 1) i e
    obtain ⟨a1, a2, a3, a4, a5⟩ := pat_turn (good_counts p) (h.take' (i := i) (by omega)) (countsF_take p i (by omega)) (n := n) (by rw [countsF_len]; omega) hb.1 hb.2
    rw [drop_next (by rw [countsF_len]; exact hi)]
    unfold patGo
    rw [a1]
    have e1 : numFrom p i (n + 1) / prodFrom (countsF p) (i + 1) n = (digit p i : Int) := by
      show ((digit p i : Int) * prodFrom (countsF p) (i + 1) n + numFrom p (i + 1) n) / _ = _
      rw [Int.add_comm, Int.add_mul_ediv_right _ _ (by omega), Int.ediv_eq_zero_of_lt b1 b2, Int.zero_add]
    have e2 : numFrom p i (n + 1) % prodFrom (countsF p) (i + 1) n = numFrom p (i + 1) n := by
      show ((digit p i : Int) * prodFrom (countsF p) (i + 1) n + numFrom p (i + 1) n) % _ = _
      rw [Int.add_comm, Int.add_mul_emod_self_right, Int.emod_eq_of_lt b1 b2]
    rw [e1, e2, Int.toNat_natCast]
    have e3 : (someF (p.take i) ((countsF p).getD i 0)).getD (digit p i) 0 = p.getD i 0 := idx_getD (h.some_at hi)
    rw [e3, ← take_next hi]
    exact patGo_num h n (i + 1) (by omega)
theorem pat_number {p : List Int} (h : IsPat p) : patF (countsF p) (numberF p) = p := by
  have := patGo_num h p.length 0 (by omega)
  unfold patF manyF
  rw [countsF_len]
  exact this
/-! ### the number of the pattern of a number -/
theorem range_nodup (n : Nat) : ((List.range n).map fun i : Nat => (i : Int)).Nodup := by
  refine List.Pairwise.map _ (fun a b hab q => hab (by omega)) List.nodup_range
theorem some_nodup {p : List Int} (h : IsPat p) (t : Int) : (someF p t).Nodup := by
  rw [some_prog h]
  split
  · exact (range_nodup _).filter _
  · simp
theorem idx_of_get {l : List Int} (hn : l.Nodup) {k : Nat} (hk : k < l.length) : l.idxOf (l.getD k 0) = k := by
  induction l generalizing k with
  | nil => simp at hk
  | cons a r ih =>
    obtain ⟨h1, h2⟩ := List.nodup_cons.mp hn
    cases k with
    | zero => simp
    | succ k =>
      have hk' : k < r.length := by simpa using hk
      rw [List.getD_cons_succ, List.idxOf_cons]
      have : (a == r.getD k 0) = false := by
        rw [beq_eq_false_iff_ne]
        intro q
        exact h1 (q ▸ getD_mem hk')
      rw [this]
      show r.idxOf _ + 1 = k + 1
      rw [ih h2 hk']
theorem patGo_pre : ∀ (rest found : List Int) (m x : Int), ∃ more, patGo found rest m x = found ++ more ∧ more.length = rest.length
  | [], found, m, x => ⟨[], (List.append_nil _).symm, rfl⟩
  | t :: r, found, m, x => by
    unfold patGo
    obtain ⟨more, e, hl⟩ := patGo_pre r (found ++ [(someF found t).getD (x / (m / ((someF found t).length : Int))).toNat 0]) (m / ((someF found t).length : Int)) (x % (m / ((someF found t).length : Int)))
    exact ⟨(someF found t).getD (x / (m / ((someF found t).length : Int))).toNat 0 :: more, by rw [e, List.append_assoc]; rfl, by rw [List.length_cons, hl, List.length_cons]⟩
theorem num_patGo {row : List Int} (hg : Good row) : ∀ (n i : Nat) (found : List Int) (number : Int), i + n = row.length → IsPat found → countsF found = row.take i → 0 ≤ number → number < prodFrom row i n →
    numFrom (patGo found (row.drop i) (prodFrom row i n) number) i n = number
  | 0, i, found, number, hn, hp, hc, h0, h1 => by
    have h1' : number < 1 := h1
    show (0 : Int) = number
    omega
  | n + 1, i, found, number, hn, hp, hc, h0, h1 => by
    have hi : i < row.length := by omega
    obtain ⟨a1, a2, a3, a4, a5⟩ := pat_turn hg hp hc hn h0 h1
    have hk : (number / prodFrom row (i + 1) n).toNat < (someF found (row.getD i 0)).length := by omega
    obtain ⟨b1, b2⟩ := pat_next hg hp hc hi (getD_mem hk)
    have hfl : found.length = i := by rw [← countsF_len, hc, List.length_take]; omega
    have eP : patGo found (row.drop i) (prodFrom row i (n + 1)) number = patGo (found ++ [(someF found (row.getD i 0)).getD (number / prodFrom row (i + 1) n).toNat 0]) (row.drop (i + 1)) (prodFrom row (i + 1) n) (number % prodFrom row (i + 1) n) := by
      rw [drop_next hi]
      conv => lhs; unfold patGo
      rw [a1]
    have hok := (patGo_ok hg (n + 1) i found number hn hp hc h0 h1).2
    have ih := num_patGo hg n (i + 1) _ (number % prodFrom row (i + 1) n) (by omega) b1 b2 (Int.emod_nonneg _ (by omega)) (Int.emod_lt_of_pos _ a5)
    rw [eP] at hok ⊢
    obtain ⟨more, em, _⟩ := patGo_pre (row.drop (i + 1)) (found ++ [(someF found (row.getD i 0)).getD (number / prodFrom row (i + 1) n).toNat 0]) (prodFrom row (i + 1) n) (number % prodFrom row (i + 1) n)
    show (digit _ i : Int) * prodFrom (countsF _) (i + 1) n + numFrom _ (i + 1) n = number
    rw [ih, hok]
    have ed : digit (patGo (found ++ [(someF found (row.getD i 0)).getD (number / prodFrom row (i + 1) n).toNat 0]) (row.drop (i + 1)) (prodFrom row (i + 1) n) (number % prodFrom row (i + 1) n)) i = (number / prodFrom row (i + 1) n).toNat := by
      unfold digit
      rw [hok, em]
      have e1 : (found ++ [(someF found (row.getD i 0)).getD (number / prodFrom row (i + 1) n).toNat 0] ++ more).take i = found := by
        rw [List.append_assoc, ← hfl, List.take_left]
      have e2 : (found ++ [(someF found (row.getD i 0)).getD (number / prodFrom row (i + 1) n).toNat 0] ++ more).getD i 0 = (someF found (row.getD i 0)).getD (number / prodFrom row (i + 1) n).toNat 0 := by
        rw [List.append_assoc, ← hfl, List.getD_eq_getElem?_getD, List.getElem?_append_right (Nat.le_refl _), Nat.sub_self]
        rfl
      rw [e1, e2]
      exact idx_of_get (some_nodup hp _) hk
    rw [ed]
    have := Int.mul_ediv_add_emod number (prodFrom row (i + 1) n)
    rw [Int.toNat_of_nonneg a2, Int.mul_comm]
    omega
theorem number_pat {row : List Int} (hg : Good row) {m : Int} (h0 : 0 ≤ m) (h1 : m < manyF row) : numberF (patF row m) = m := by
  have := num_patGo hg row.length 0 [] m (by omega) isPat_nil rfl h0 h1
  have hl : (patF row m).length = row.length := by rw [← countsF_len, (patF_ok hg h0 h1).2]
  unfold numberF
  rw [hl]
  exact this
/-! ### Horner's way, as number_in goes -/
def horn (p : List Int) : Nat → Int
  | 0 => 0
  | i + 1 => horn p i * leftF (countsF p) i + (digit p i : Int)
theorem horn_num {p : List Int} : ∀ (n i : Nat), i + n = p.length → horn p i * prodFrom (countsF p) i n + numFrom p i n = horn p p.length
  | 0, i, e => by
    have : i = p.length := by omega
    rw [this]
    show horn p p.length * 1 + 0 = _
    omega
  | n + 1, i, e => by
    rw [← horn_num n (i + 1) (by omega)]
    show horn p i * (leftF (countsF p) i * prodFrom (countsF p) (i + 1) n) + ((digit p i : Int) * prodFrom (countsF p) (i + 1) n + numFrom p (i + 1) n) = (horn p i * leftF (countsF p) i + (digit p i : Int)) * prodFrom (countsF p) (i + 1) n + numFrom p (i + 1) n
    rw [Int.add_mul, Int.mul_assoc, Int.add_assoc]
theorem horn_all (p : List Int) : horn p p.length = numberF p := by
  have := horn_num (p := p) p.length 0 (by omega)
  rw [← this]
  show (0 : Int) * _ + numberF p = numberF p
  rw [Int.zero_mul, Int.zero_add]
/-- a new sign -/
theorem digit_new {p : List Int} (h : IsPat p) {i : Nat} (hi : i < p.length) (h0 : (countsF p).getD i 0 ≤ 0) : leftF (countsF p) i = 1 ∧ digit p i = 0 := by
  have hs := h.some_at hi
  have e : someF (p.take i) ((countsF p).getD i 0) = [(knownF (p.take i) : Int)] := by unfold someF; rw [if_neg (by omega)]
  constructor
  · rw [← some_left h hi, e]; rfl
  · unfold digit
    rw [e] at hs ⊢
    rw [List.mem_singleton.mp hs]
    simp
/-! ### patterns of patterns -/
theorem firsts_map {f : Int → Int} : ∀ (row acc : List Int), (∀ x ∈ acc ++ row, ∀ y ∈ acc ++ row, f x = f y → x = y) → firsts (acc.map f) (row.map f) = (firsts acc row).map f
  | [], acc, _ => rfl
  | s :: r, acc, h => by
    show firsts (if f s ∈ acc.map f then acc.map f else acc.map f ++ [f s]) (r.map f) = (firsts (if s ∈ acc then acc else acc ++ [s]) r).map f
    have hm : f s ∈ acc.map f ↔ s ∈ acc := by
      constructor
      · intro q
        obtain ⟨x, hx, e⟩ := List.mem_map.mp q
        have := h x (List.mem_append_left _ hx) s (List.mem_append_right _ (List.mem_cons_self ..)) e
        rw [← this]; exact hx
      · exact fun q => List.mem_map.mpr ⟨s, q, rfl⟩
    by_cases e : s ∈ acc
    · rw [if_pos e, if_pos (hm.mpr e)]
      exact firsts_map r acc fun x hx y hy => h x (by rcases List.mem_append.mp hx with q | q; exact List.mem_append_left _ q; exact List.mem_append_right _ (List.mem_cons_of_mem _ q)) y (by rcases List.mem_append.mp hy with q | q; exact List.mem_append_left _ q; exact List.mem_append_right _ (List.mem_cons_of_mem _ q))
    · rw [if_neg e, if_neg (fun q => e (hm.mp q))]
      have e2 : acc.map f ++ [f s] = (acc ++ [s]).map f := by rw [List.map_append]; rfl
      rw [e2]
      refine firsts_map r (acc ++ [s]) fun x hx y hy => h x ?_ y ?_
      · rw [List.append_assoc] at hx; exact hx
      · rw [List.append_assoc] at hy; exact hy
theorem idx_map {f : Int → Int} {s : Int} : ∀ (l : List Int), (∀ x ∈ l, f x = f s → x = s) → (l.map f).idxOf (f s) = l.idxOf s
  | [], _ => rfl
  | a :: r, h => by
    rw [List.map_cons, List.idxOf_cons, List.idxOf_cons]
    have e : (f a == f s) = (a == s) := by
      by_cases q : a = s
      · subst q; simp
      · have q2 : ¬ f a = f s := fun z => q (h a (List.mem_cons_self ..) z)
        rw [beq_eq_false_iff_ne.mpr q, beq_eq_false_iff_ne.mpr q2]
    rw [e, idx_map r fun x hx => h x (List.mem_cons_of_mem _ hx)]
theorem patternF_map {f : Int → Int} {row : List Int} (h : ∀ x ∈ row, ∀ y ∈ row, f x = f y → x = y) : patternF (row.map f) = patternF row := by
  unfold patternF
  have e := firsts_map (f := f) row [] (by simpa using h)
  have e' : firsts [] (row.map f) = (firsts [] row).map f := e
  rw [e', List.map_map]
  apply List.map_congr_left
  intro s hs
  show (((List.map f (firsts [] row)).idxOf (f s) : Nat) : Int) = _
  rw [idx_map _ fun x hx q => h x (((firsts_mem [] row x).mp hx).resolve_left (by simp)) s hs q]
theorem idx_range {n : Nat} {s : Int} (h0 : 0 ≤ s) (h1 : s < (n : Int)) : (((List.range n).map fun i : Nat => (i : Int)).idxOf s : Int) = s := by
  have hl : s.toNat < ((List.range n).map fun i : Nat => (i : Int)).length := by rw [List.length_map, List.length_range]; omega
  have hg : ((List.range n).map fun i : Nat => (i : Int)).getD s.toNat 0 = s := by
    rw [List.getD_eq_getElem?_getD, List.getElem?_map, List.getElem?_range (by omega)]
    show ((s.toNat : Nat) : Int) = s
    omega
  have := idx_of_get (range_nodup n) hl
  rw [hg] at this
  rw [this]
  omega
theorem pattern_id {p : List Int} (h : IsPat p) : patternF p = p := by
  unfold patternF
  conv => rhs; rw [← List.map_id p]
  apply List.map_congr_left
  intro s hs
  have hm := (h.mem s).mp ((firsts_mem [] p s).mpr (.inr hs))
  have h' : firsts [] p = (List.range (knownF p)).map fun i : Nat => (i : Int) := h
  rw [h', idx_range hm.1 hm.2]
  rfl
theorem pattern_isPat (row : List Int) : IsPat (patternF row) := by
  refine snoc_ind (P := fun row => IsPat (patternF row)) isPat_nil ?_ row
  intro l x ih
  rw [patternF_snoc]
  have hk : knownF (patternF l) = (firsts [] l).length := by
    have e : firsts [] (patternF l) = (firsts [] l).map fun s => (((firsts [] l).idxOf s : Nat) : Int) := by
      have := firsts_map (f := fun s => (((firsts [] l).idxOf s : Nat) : Int)) l [] (by
        intro a ha b hb q
        simp only [List.nil_append] at ha hb
        exact idx_inj ((firsts_mem [] l a).mpr (.inr ha)) (by omega))
      exact this
    unfold knownF
    rw [e, List.length_map]
  refine (ih.snoc ?_).1
  rw [firsts_snoc]
  by_cases hx : x ∈ firsts [] l
  · rw [if_pos hx]
    left
    have hlt := List.idxOf_lt_length_of_mem hx
    exact (ih.mem _).mpr ⟨by omega, by rw [hk]; omega⟩
  · rw [if_neg hx]
    right
    rw [hk]
    congr 1
    rw [List.idxOf_append, if_neg hx]
    simp
end Oa
/-! all patterns with told counts, in order -/
namespace Oa
def allGo : List Int → Nat → List (List Int)
  | found, 0 => [found]
  | found, n + 1 => (nextOf found).flatMap fun p => allGo p n
theorem allGo_snoc : ∀ (n : Nat) (found : List Int), allGo found (n + 1) = (allGo found n).flatMap nextOf
  | 0, found => by
    show (nextOf found).flatMap (fun p => [p]) = [found].flatMap nextOf
    rw [List.flatMap_singleton]
    exact List.flatMap_singleton' _
  | n + 1, found => by
    show (nextOf found).flatMap (fun p => allGo p (n + 1)) = ((nextOf found).flatMap fun p => allGo p n).flatMap nextOf
    rw [List.flatMap_assoc]
    congr 1
    funext p
    exact allGo_snoc n p
theorem patterns_go : ∀ n : Nat, patternsF n = allGo [] n
  | 0 => rfl
  | n + 1 => by
    rw [allGo_snoc, ← patterns_go n]
    rfl
theorem allGo_pre : ∀ (n : Nat) (found q : List Int), q ∈ allGo found n → q.take found.length = found ∧ q.length = found.length + n
  | 0, found, q, h => by
    rw [List.mem_singleton.mp h]
    exact ⟨List.take_length, rfl⟩
  | n + 1, found, q, h => by
    obtain ⟨p, hp, hq⟩ := List.mem_flatMap.mp h
    obtain ⟨k, _, rfl⟩ := mem_nextOf.mp hp
    obtain ⟨h1, h2⟩ := allGo_pre n _ q hq
    rw [List.length_append] at h1 h2
    have e : q.take found.length = (q.take (found.length + [((k : Nat) : Int)].length)).take found.length := by rw [List.take_take, Nat.min_eq_left (by omega)]
    refine ⟨?_, by rw [h2]; simp; omega⟩
    rw [e, h1, List.take_left]
theorem flat_if {α β : Type} (l : List α) (c : α → Bool) (f : α → List β) : (l.flatMap fun a => if c a = true then f a else []) = (l.filter c).flatMap f := by
  induction l with
  | nil => rfl
  | cons a r ih =>
    rw [List.flatMap_cons, ih, List.filter_cons]
    cases h : c a with
    | true => simp
    | false => simp
/-- the signs with so many ahead, a new one among them -/
theorem some_filter {p : List Int} (h : IsPat p) {t : Int} (h0 : 0 ≤ t) : (((List.range (knownF p + 1)).map fun i : Nat => (i : Int)).filter fun s => decide (((p.count s : Nat) : Int) = t)) = someF p t := by
  rw [List.range_succ, List.map_append, List.filter_append]
  have hk : p.count (knownF p : Int) = 0 := List.count_eq_zero.mpr fun q => h.fresh ((firsts_mem [] p _).mpr (.inr q))
  by_cases ht : 0 < t
  · rw [some_prog h, if_pos ht]
    have : (List.map (fun i : Nat => (i : Int)) [knownF p]).filter (fun s => decide (((p.count s : Nat) : Int) = t)) = [] := by
      rw [List.filter_eq_nil_iff]
      intro s hs
      simp only [List.map_cons, List.map_nil, List.mem_singleton] at hs
      rw [hs, hk]
      simp only [decide_eq_true_eq]
      omega
    rw [this, List.append_nil]
  · have e : t = 0 := by omega
    subst e
    unfold someF
    rw [if_neg ht]
    have e1 : ((List.range (knownF p)).map fun i : Nat => (i : Int)).filter (fun s => decide (((p.count s : Nat) : Int) = 0)) = [] := by
      rw [List.filter_eq_nil_iff]
      intro s hs
      have h' : firsts [] p = (List.range (knownF p)).map fun i : Nat => (i : Int) := h
      rw [← h'] at hs
      have hp : s ∈ p := ((firsts_mem [] p s).mp hs).resolve_left (by simp)
      have := List.count_pos_iff.mpr hp
      simp only [decide_eq_true_eq]
      omega
    rw [e1]
    simp [hk]
theorem range_mul {α : Type} (g : Nat → α) (M : Nat) : ∀ b : Nat, (List.range (b * M)).map g = (List.range b).flatMap fun d => (List.range M).map fun r => g (d * M + r)
  | 0 => by simp
  | b + 1 => by
    rw [Nat.succ_mul, List.range_add, List.map_append, range_mul g M b, List.range_succ, List.flatMap_append, List.flatMap_singleton, List.map_map]
    rfl
theorem flat_getD {β : Type} (F : Int → List β) (l : List Int) : l.flatMap F = (List.range l.length).flatMap fun d => F (l.getD d 0) := by
  rw [List.flatMap_def, List.flatMap_def, map_getD F l]
theorem every_go {row : List Int} (hg : Good row) : ∀ (n i : Nat) (found : List Int), i + n = row.length → IsPat found → countsF found = row.take i →
    (allGo found n).filter (fun p => decide (countsF p = row)) = (List.range (prodFrom row i n).toNat).map fun k : Nat => patGo found (row.drop i) (prodFrom row i n) (k : Int)
  | 0, i, found, hn, hp, hc => by
    have e : countsF found = row := by rw [hc, List.take_of_length_le (by omega)]
    show [found].filter _ = (List.range 1).map _
    rw [List.filter_cons, if_pos (decide_eq_true e), List.drop_of_length_le (by omega)]
    rfl
  | n + 1, i, found, hn, hp, hc => by
    have hi : i < row.length := by omega
    have hlf := hg i hi
    have hfl : found.length = i := by rw [← countsF_len, hc, List.length_take]; omega
    have hpos := prodFrom_pos hg n (i + 1) (by omega)
    have hsl := some_len hc hlf
    show ((nextOf found).flatMap fun p => allGo p n).filter _ = _
    rw [List.filter_flatMap]
    unfold nextOf
    have e1 : ((List.range (knownF found + 1)).map fun k : Nat => found ++ [(k : Int)]) = ((List.range (knownF found + 1)).map fun k : Nat => (k : Int)).map fun s => found ++ [s] := by rw [List.map_map]; rfl
    rw [e1, List.flatMap_map]
    have e2 : (fun s : Int => (allGo (found ++ [s]) n).filter fun p => decide (countsF p = row)) = fun s : Int => if (decide (((found.count s : Nat) : Int) = row.getD i 0)) = true then (allGo (found ++ [s]) n).filter (fun p => decide (countsF p = row)) else [] := by
      funext s
      by_cases q : ((found.count s : Nat) : Int) = row.getD i 0
      · rw [if_pos (decide_eq_true q)]
      · rw [if_neg (by simpa using q), List.filter_eq_nil_iff]
        intro p hpm
        simp only [decide_eq_true_eq]
        intro ec
        obtain ⟨h1, h2⟩ := allGo_pre n _ p hpm
        have hpl : p.length = row.length := by rw [← countsF_len, ec]
        have h3 := countsF_take p (found ++ [s]).length (by rw [h2]; omega)
        rw [h1, ec, countsF_snoc, List.length_append, hfl, hc] at h3
        have h4 : row.take (i + 1) = row.take i ++ [row.getD i 0] := take_next hi
        have h5 : row.take (i + [s].length) = row.take (i + 1) := rfl
        rw [h5, h4] at h3
        have h6 := List.append_cancel_left h3
        exact q (by simpa using h6)
    rw [e2, flat_if, some_filter hp (left_nn hlf), flat_getD]
    have e3 : (prodFrom row i (n + 1)).toNat = (someF found (row.getD i 0)).length * (prodFrom row (i + 1) n).toNat := by
      show (leftF row i * prodFrom row (i + 1) n).toNat = _
      rw [← hsl]
      have : ((someF found (row.getD i 0)).length : Int) * prodFrom row (i + 1) n = (((someF found (row.getD i 0)).length * (prodFrom row (i + 1) n).toNat : Nat) : Int) := by
        rw [Int.natCast_mul, Int.toNat_of_nonneg (by omega)]
      rw [this, Int.toNat_natCast]
    rw [e3, range_mul, List.flatMap_def, List.flatMap_def]
    congr 1
    apply List.map_congr_left
    intro d hd
    have hd' := List.mem_range.mp hd
    obtain ⟨b1, b2⟩ := pat_next hg hp hc hi (getD_mem hd')
    rw [every_go hg n (i + 1) _ (by omega) b1 b2]
    apply List.map_congr_left
    intro r hr
    have hr' := List.mem_range.mp hr
    have hM : ((prodFrom row (i + 1) n).toNat : Int) = prodFrom row (i + 1) n := Int.toNat_of_nonneg (by omega)
    have ek : ((d * (prodFrom row (i + 1) n).toNat + r : Nat) : Int) = (r : Int) + (d : Int) * prodFrom row (i + 1) n := by
      rw [Int.natCast_add, Int.natCast_mul, hM]; omega
    have hb0 : 0 ≤ (d : Int) * prodFrom row (i + 1) n := Int.mul_nonneg (by omega) (by omega)
    have hb1 : ((d : Int) + 1) * prodFrom row (i + 1) n ≤ leftF row i * prodFrom row (i + 1) n := Int.mul_le_mul_of_nonneg_right (by omega) (by omega)
    rw [Int.add_mul, Int.one_mul] at hb1
    obtain ⟨a1, a2, a3, a4, a5⟩ := pat_turn hg hp hc hn (number := (r : Int) + (d : Int) * prodFrom row (i + 1) n) (by omega) (by show _ < leftF row i * prodFrom row (i + 1) n; omega)
    rw [ek]
    conv => rhs; rw [drop_next hi]; unfold patGo
    rw [a1]
    have q1 : ((r : Int) + (d : Int) * prodFrom row (i + 1) n) / prodFrom row (i + 1) n = (d : Int) := by
      rw [Int.add_mul_ediv_right _ _ (by omega), Int.ediv_eq_zero_of_lt (by omega) (by omega), Int.zero_add]
    have q2 : ((r : Int) + (d : Int) * prodFrom row (i + 1) n) % prodFrom row (i + 1) n = (r : Int) := by
      rw [Int.add_mul_emod_self_right, Int.emod_eq_of_lt (by omega) (by omega)]
    rw [q1, q2, Int.toNat_natCast]
/-- all patterns with a row as counts, in order -/
def everyF (row : List Int) : List (List Int) := (patternsF row.length).filter fun p => decide (countsF p = row)
theorem every_good {row : List Int} (hg : Good row) : everyF row = (List.range (manyF row).toNat).map fun k : Nat => patF row (k : Int) := by
  unfold everyF
  rw [patterns_go]
  exact every_go hg row.length 0 [] (by omega) isPat_nil rfl
theorem every_bad {row : List Int} (hg : ¬ Good row) : everyF row = [] := by
  unfold everyF
  rw [List.filter_eq_nil_iff]
  intro p _
  simp only [decide_eq_true_eq]
  intro e
  exact hg (e ▸ good_counts p)
theorem every_len {row : List Int} (hg : Good row) : ((everyF row).length : Int) = manyF row := by
  rw [every_good hg, List.length_map, List.length_range]
  have := manyF_pos hg
  omega
theorem every_few {row : List Int} (hl : row.length ≤ 6) : (everyF row).length ≤ 720 := by
  unfold everyF
  have h1 := List.length_filter_le (fun p => decide (countsF p = row)) (patternsF row.length)
  have h2 := patterns_len row.length
  have h3 := fact_le6 hl
  omega
/-! ### the order -/
theorem some_rise {p : List Int} (h : IsPat p) (t : Int) : (someF p t).Pairwise (· < ·) := by
  rw [some_prog h]
  split
  · refine List.Pairwise.filter _ ?_
    rw [List.pairwise_map]
    exact List.pairwise_lt_range.imp fun {a b} q => by omega
  · simp
theorem rise_at {l : List Int} (h : l.Pairwise (· < ·)) {j k : Nat} (hj : j < k) (hk : k < l.length) : l.getD j 0 < l.getD k 0 := by
  rw [List.getD_eq_getElem?_getD, List.getD_eq_getElem?_getD, List.getElem?_eq_getElem hk, List.getElem?_eq_getElem (by omega)]
  exact List.pairwise_iff_getElem.mp h j k (by omega) hk hj
def patTail (found : List Int) : List Int → Int → Int → List Int
  | [], _, _ => []
  | t :: r, many, number => (someF found t).getD (number / (many / ((someF found t).length : Int))).toNat 0 :: patTail (found ++ [(someF found t).getD (number / (many / ((someF found t).length : Int))).toNat 0]) r (many / ((someF found t).length : Int)) (number % (many / ((someF found t).length : Int)))
theorem patGo_tail : ∀ (rest found : List Int) (m x : Int), patGo found rest m x = found ++ patTail found rest m x
  | [], found, m, x => (List.append_nil _).symm
  | t :: r, found, m, x => by
    unfold patGo patTail
    rw [patGo_tail, List.append_assoc]
    rfl
theorem tail_le {row : List Int} (hg : Good row) : ∀ (n i : Nat) (found : List Int) (x y : Int), i + n = row.length → IsPat found → countsF found = row.take i → 0 ≤ x → x ≤ y → y < prodFrom row i n →
    ¬ patTail found (row.drop i) (prodFrom row i n) y < patTail found (row.drop i) (prodFrom row i n) x
  | 0, i, found, x, y, hn, hp, hc, h0, h1, h2 => by
    rw [List.drop_of_length_le (by omega)]
    exact List.not_lt_nil _
  | n + 1, i, found, x, y, hn, hp, hc, h0, h1, h2 => by
    have hi : i < row.length := by omega
    obtain ⟨a1, a2, a3, a4, a5⟩ := pat_turn hg hp hc hn h0 (Int.lt_of_le_of_lt h1 h2)
    obtain ⟨b1, b2, b3, b4, b5⟩ := pat_turn hg hp hc hn (Int.le_trans h0 h1) h2
    rw [drop_next hi]
    unfold patTail
    rw [a1, List.cons_lt_cons_iff]
    have hxy : x / prodFrom row (i + 1) n ≤ y / prodFrom row (i + 1) n := Int.ediv_le_ediv a5 h1
    have hky : (y / prodFrom row (i + 1) n).toNat < (someF found (row.getD i 0)).length := by omega
    have hkx : (x / prodFrom row (i + 1) n).toNat < (someF found (row.getD i 0)).length := by omega
    by_cases e : x / prodFrom row (i + 1) n = y / prodFrom row (i + 1) n
    · rw [e]
      rintro (q | ⟨_, q⟩)
      · exact absurd q (Int.lt_irrefl _)
      · obtain ⟨c1, c2⟩ := pat_next hg hp hc hi (getD_mem hky)
        refine tail_le hg n (i + 1) _ _ _ (by omega) c1 c2 (Int.emod_nonneg _ (by omega)) ?_ (Int.emod_lt_of_pos _ a5) q
        have q1 := Int.mul_ediv_add_emod x (prodFrom row (i + 1) n)
        have q2 := Int.mul_ediv_add_emod y (prodFrom row (i + 1) n)
        rw [e] at q1
        omega
    · have hr := rise_at (some_rise hp (row.getD i 0)) (j := (x / prodFrom row (i + 1) n).toNat) (k := (y / prodFrom row (i + 1) n).toNat) (by omega) hky
      rintro (q | ⟨q, _⟩)
      · omega
      · omega
theorem patF_le {row : List Int} (hg : Good row) {x y : Int} (h0 : 0 ≤ x) (h1 : x ≤ y) (h2 : y < manyF row) : ¬ patF row y < patF row x := by
  unfold patF
  rw [patGo_tail, patGo_tail]
  exact tail_le hg row.length 0 [] x y (by omega) isPat_nil rfl h0 h1 h2
end Oa
/-! shapes, their ways on -/
namespace Oa
def IsShape (s : List Int) : Prop := s.Pairwise (fun a b => b ≤ a) ∧ ∀ x ∈ s, 1 ≤ x
theorem isShape_nil : IsShape [] := ⟨List.Pairwise.nil, fun x h => nomatch h⟩
theorem IsShape.tail {a : Int} {r : List Int} (h : IsShape (a :: r)) : IsShape r := ⟨(List.pairwise_cons.mp h.1).2, fun x hx => h.2 x (List.mem_cons_of_mem _ hx)⟩
theorem IsShape.head {a : Int} {r : List Int} (h : IsShape (a :: r)) : 1 ≤ a ∧ r.getD 0 0 ≤ a := by
  refine ⟨h.2 a (List.mem_cons_self ..), ?_⟩
  cases r with
  | nil => have := h.2 a (List.mem_cons_self ..); show (0 : Int) ≤ a; omega
  | cons b r => exact (List.pairwise_cons.mp h.1).1 b (List.mem_cons_self ..)
theorem IsShape.cons {a : Int} {r : List Int} (h : IsShape r) (ha : 1 ≤ a) (hr : r.getD 0 0 ≤ a) : IsShape (a :: r) := by
  refine ⟨List.pairwise_cons.mpr ⟨fun b hb => ?_, h.1⟩, fun x hx => ?_⟩
  · cases r with
    | nil => cases hb
    | cons c r =>
      have hr' : c ≤ a := hr
      rcases List.mem_cons.mp hb with q | q
      · rw [q]; exact hr'
      · exact Int.le_trans ((List.pairwise_cons.mp h.1).1 b q) hr'
  · rcases List.mem_cons.mp hx with q | q
    · rw [q]; exact ha
    · exact h.2 x q
def bumpF (s : List Int) (i : Nat) : List Int := s.take i ++ [if i < s.length then s.getD i 0 + 1 else 1] ++ s.drop (i + 1)
def condW (s : List Int) (i : Nat) : Bool := decide (i = 0) || (decide (i = s.length) || decide (s.getD i 0 < s.getD (i - 1) 0))
/-- all shapes with one more, by the number that comes -/
def widerF (s : List Int) : List (Nat × List Int) := ((List.range (s.length + 1)).filter (condW s)).map fun i => (i, bumpF s i)
def waysF : List Int → Nat → Int
  | _, 0 => 1
  | s, n + 1 => ((widerF s).map fun p => waysF p.2 n).sum
/-! ### by recursion, below a bound -/
def idxW (m : Int) : List Int → List (Nat × List Int)
  | [] => if 0 < m then [(0, [1])] else []
  | a :: r => (if a < m then [(0, (a + 1) :: r)] else []) ++ (idxW a r).map fun p => (p.1 + 1, a :: p.2)
theorem bump_zero (a : Int) (r : List Int) : bumpF (a :: r) 0 = (a + 1) :: r := by
  unfold bumpF
  rw [if_pos (by simp)]
  simp
theorem bump_succ (a : Int) (r : List Int) (i : Nat) : bumpF (a :: r) (i + 1) = a :: bumpF r i := by
  unfold bumpF
  simp
def condB (m : Int) (s : List Int) (i : Nat) : Bool := decide (s.getD i 0 < (if i = 0 then m else s.getD (i - 1) 0))
theorem condB_succ (m a : Int) (r : List Int) (i : Nat) : condB m (a :: r) (i + 1) = condB a r i := by
  unfold condB
  rw [if_neg (by omega), List.getD_cons_succ]
  cases i with
  | zero => simp
  | succ i => simp
theorem idx_by : ∀ (s : List Int) (m : Int), idxW m s = ((List.range (s.length + 1)).filter (condB m s)).map fun i => (i, bumpF s i)
  | [], m => by
    show (if 0 < m then [(0, [1])] else []) = _
    by_cases h : 0 < m
    · rw [if_pos h]
      have : condB m [] 0 = true := decide_eq_true h
      simp [this, bumpF, List.range_succ]
    · rw [if_neg h]
      have : condB m [] 0 = false := decide_eq_false h
      simp [this, List.range_succ]
  | a :: r, m => by
    show (if a < m then [(0, (a + 1) :: r)] else []) ++ (idxW a r).map _ = _
    have e0 : List.range ((a :: r).length + 1) = 0 :: (List.range (r.length + 1)).map Nat.succ := by rw [List.length_cons, List.range_succ_eq_map]
    rw [idx_by r a, e0, List.filter_cons, List.filter_map]
    have e1 : (condB m (a :: r)) ∘ Nat.succ = condB a r := by funext i; exact condB_succ m a r i
    have e2 : condB m (a :: r) 0 = decide (a < m) := rfl
    rw [e1, e2]
    by_cases h : a < m
    · rw [if_pos h, if_pos (decide_eq_true h), List.map_cons, bump_zero, List.map_map, List.map_map]
      show _ :: _ = _ :: _
      congr 1
      apply List.map_congr_left
      intro i _
      show (i + 1, a :: bumpF r i) = (i + 1, bumpF (a :: r) (i + 1))
      rw [bump_succ]
    · rw [if_neg h, if_neg (by simpa using h), List.nil_append, List.map_map, List.map_map]
      apply List.map_congr_left
      intro i _
      show (i + 1, a :: bumpF r i) = (i + 1, bumpF (a :: r) (i + 1))
      rw [bump_succ]
theorem shape_at {s : List Int} (h : IsShape s) {i : Nat} (hi : i < s.length) : 1 ≤ s.getD i 0 := h.2 _ (getD_mem hi)
theorem wider_idx {s : List Int} (h : IsShape s) {m : Int} (hm : s.getD 0 0 < m) : widerF s = idxW m s := by
  rw [idx_by]
  unfold widerF
  congr 1
  apply List.filter_congr
  intro i hi
  have hi' := List.mem_range.mp hi
  unfold condW condB
  by_cases e0 : i = 0
  · subst e0
    rw [if_pos rfl, decide_eq_true rfl, decide_eq_true hm]
    rfl
  · rw [if_neg e0, decide_eq_false e0]
    by_cases el : i = s.length
    · have h1 : s.getD i 0 = 0 := by rw [List.getD_eq_getElem?_getD, List.getElem?_eq_none (by omega)]; rfl
      have h2 := shape_at h (i := i - 1) (by omega)
      rw [decide_eq_true el, decide_eq_true (show s.getD i 0 < s.getD (i - 1) 0 by omega)]
      rfl
    · rw [decide_eq_false el]
      rfl
/-! ### down -/
def cons0 (a : Int) (r : List Int) : List Int := if a = 0 then r else a :: r
def dnF : List Int → List (List Int)
  | [] => []
  | a :: r => (if r.getD 0 0 < a then [cons0 (a - 1) r] else []) ++ (dnF r).map fun s => a :: s
def upF (m : Int) (s : List Int) : List (List Int) := (idxW m s).map (·.2)
theorem upF_nil (m : Int) : upF m [] = if 0 < m then [[1]] else [] := by
  unfold upF idxW
  split <;> rfl
theorem upF_cons (m a : Int) (r : List Int) : upF m (a :: r) = (if a < m then [(a + 1) :: r] else []) ++ (upF a r).map fun s => a :: s := by
  unfold upF
  conv => lhs; unfold idxW
  rw [List.map_append, List.map_map, List.map_map]
  congr 1
  split <;> rfl
theorem up_head {m : Int} : ∀ {s μ : List Int}, IsShape s → s.getD 0 0 ≤ m → μ ∈ upF m s → IsShape μ ∧ 1 ≤ μ.getD 0 0 ∧ μ.getD 0 0 ≤ m ∧ μ.getD 0 0 ≤ s.getD 0 0 + 1 ∧ s.getD 0 0 ≤ μ.getD 0 0
  | [], μ, hs, hm, h => by
    rw [upF_nil] at h
    split at h
    · rw [List.mem_singleton.mp h]
      exact ⟨⟨by simp, by simp⟩, Int.le_refl _, by show (1 : Int) ≤ m; omega, by show (1 : Int) ≤ 0 + 1; decide, by show (0 : Int) ≤ 1; decide⟩
    · cases h
  | a :: r, μ, hs, hm, h => by
    have hh := hs.head
    have hm' : a ≤ m := hm
    rw [upF_cons] at h
    rcases List.mem_append.mp h with h | h
    · split at h
      · rename_i q
        rw [List.mem_singleton.mp h]
        exact ⟨hs.tail.cons (by omega) (by omega), by show 1 ≤ a + 1; omega, by show a + 1 ≤ m; omega, Int.le_refl _, by show a ≤ a + 1; omega⟩
      · cases h
    · obtain ⟨ν, hν, rfl⟩ := List.mem_map.mp h
      obtain ⟨h1, h2, h3, h4, h5⟩ := up_head hs.tail hh.2 hν
      exact ⟨h1.cons hh.1 h3, hh.1, hm', by show a ≤ a + 1; omega, Int.le_refl _⟩
theorem dn_head : ∀ {s ν : List Int}, IsShape s → ν ∈ dnF s → IsShape ν ∧ ν.getD 0 0 ≤ s.getD 0 0
  | a :: r, ν, hs, h => by
    have hh := hs.head
    unfold dnF at h
    rcases List.mem_append.mp h with h | h
    · split at h
      · rename_i q
        rw [List.mem_singleton.mp h]
        unfold cons0
        by_cases e : a - 1 = 0
        · rw [if_pos e]
          exact ⟨hs.tail, hh.2⟩
        · rw [if_neg e]
          exact ⟨hs.tail.cons (by omega) (by omega), by show a - 1 ≤ a; omega⟩
      · cases h
    · obtain ⟨μ, hμ, rfl⟩ := List.mem_map.mp h
      obtain ⟨h1, h2⟩ := dn_head hs.tail hμ
      exact ⟨h1.cons hh.1 (Int.le_trans h2 hh.2), Int.le_refl _⟩
def sumOf (f : List Int → Int) (l : List (List Int)) : Int := (l.map f).sum
theorem sumOf_nil (f : List Int → Int) : sumOf f [] = 0 := rfl
theorem sumOf_cons (f : List Int → Int) (a : List Int) (l : List (List Int)) : sumOf f (a :: l) = f a + sumOf f l := by unfold sumOf; rw [List.map_cons, List.sum_cons]
theorem sumOf_app (f : List Int → Int) (l m : List (List Int)) : sumOf f (l ++ m) = sumOf f l + sumOf f m := by unfold sumOf; rw [List.map_append, List.sum_append]
theorem sumOf_map (f : List Int → Int) (g : List Int → List Int) (l : List (List Int)) : sumOf f (l.map g) = sumOf (fun s => f (g s)) l := by unfold sumOf; rw [List.map_map]; rfl
theorem sumOf_congr {f g : List Int → Int} {l : List (List Int)} (h : ∀ s ∈ l, f s = g s) : sumOf f l = sumOf g l := by unfold sumOf; rw [List.map_congr_left h]
theorem sumOf_add (f g : List Int → Int) : ∀ l : List (List Int), sumOf (fun s => f s + g s) l = sumOf f l + sumOf g l
  | [] => rfl
  | a :: l => by rw [sumOf_cons, sumOf_cons, sumOf_cons, sumOf_add f g l]; omega
theorem sumOf_mul (c : Int) (f : List Int → Int) : ∀ l : List (List Int), sumOf (fun s => c * f s) l = c * sumOf f l
  | [] => by simp [sumOf]
  | a :: l => by rw [sumOf_cons, sumOf_cons, sumOf_mul c f l, Int.mul_add]
theorem sumOf_filter (f : List Int → Int) (c : List Int → Bool) : ∀ l : List (List Int), sumOf (fun s => if c s = true then f s else 0) l = sumOf f (l.filter c)
  | [] => rfl
  | a :: l => by
    rw [sumOf_cons, sumOf_filter f c l, List.filter_cons]
    cases h : c a with
    | true => rw [if_pos rfl, if_pos rfl, sumOf_cons]
    | false => simp
theorem sumOf_if (f : List Int → Int) (c : Prop) [Decidable c] (a : List Int) : sumOf f (if c then [a] else []) = if c then f a else 0 := by
  split
  · rw [sumOf_cons, sumOf_nil]; omega
  · rfl
/-- those that stay below the bound -/
theorem up_low {a : Int} : ∀ {r : List Int}, IsShape r → r.getD 0 0 ≤ a → (upF a r).filter (fun μ => decide (μ.getD 0 0 < a)) = if r.getD 0 0 < a then upF (a - 1) r else []
  | [], hs, hm => by
    rw [upF_nil, upF_nil]
    have hm' : (0 : Int) ≤ a := hm
    show _ = if (0 : Int) < a then _ else _
    by_cases h0 : 0 < a
    · rw [if_pos h0, if_pos h0]
      by_cases h1 : 0 < a - 1
      · rw [if_pos h1, List.filter_cons, if_pos (decide_eq_true (show ([1] : List Int).getD 0 0 < a from (by show (1 : Int) < a; omega)))]
        rfl
      · rw [if_neg h1, List.filter_cons, if_neg (by rw [decide_eq_true_eq]; show ¬ (1 : Int) < a; omega)]
        rfl
    · rw [if_neg h0, if_neg h0]
      rfl
  | b :: r, hs, hm => by
    have hm' : b ≤ a := hm
    show _ = if b < a then _ else _
    rw [upF_cons, upF_cons, List.filter_append, List.filter_map]
    by_cases h : b < a
    · rw [if_pos h, if_pos h]
      congr 1
      · by_cases h1 : b < a - 1
        · rw [if_pos h1, List.filter_cons, if_pos (decide_eq_true (show ((b + 1) :: r).getD 0 0 < a from (by show b + 1 < a; omega)))]
          rfl
        · rw [if_neg h1, List.filter_cons, if_neg (by rw [decide_eq_true_eq]; show ¬ b + 1 < a; omega)]
          rfl
      · rw [List.filter_eq_self.mpr]
        intro μ _
        exact decide_eq_true (show b < a from h)
    · rw [if_neg h, if_neg h, List.filter_nil, List.nil_append]
      have : (upF b r).filter ((fun μ => decide (μ.getD 0 0 < a)) ∘ fun s => b :: s) = [] := by
        rw [List.filter_eq_nil_iff]
        intro μ _
        show ¬ decide (b < a) = true
        simpa using h
      rw [this]
      rfl
/-- up and down, down and up -/
theorem up_down (f : List Int → Int) {m : Int} : ∀ {s : List Int}, IsShape s → s.getD 0 0 ≤ m → sumOf (fun μ => sumOf f (dnF μ)) (upF m s) = sumOf (fun ν => sumOf f (upF m ν)) (dnF s) + (if s.getD 0 0 < m then f s else 0) := by
  intro s
  induction s generalizing f m with
  | nil =>
    intro hs hm
    rw [upF_nil]
    show _ = sumOf _ [] + if (0 : Int) < m then f [] else 0
    rw [sumOf_nil, sumOf_if, Int.zero_add]
    have e : sumOf f (dnF [1]) = f [] := by
      unfold dnF dnF cons0
      simp [sumOf]
    rw [e]
  | cons a r ih =>
    intro hs hm
    have hh := hs.head
    have hm' : a ≤ m := hm
    show _ = _ + if a < m then f (a :: r) else 0
    rw [upF_cons, sumOf_app, sumOf_if, sumOf_map]
    -- above
    have e1 : sumOf f (dnF ((a + 1) :: r)) = f (a :: r) + sumOf (fun ν => f ((a + 1) :: ν)) (dnF r) := by
      conv => lhs; unfold dnF
      rw [if_pos (by omega), sumOf_app, sumOf_cons, sumOf_nil, sumOf_map, Int.add_zero]
      unfold cons0
      rw [if_neg (by omega), Int.add_sub_cancel]
    have e2 : sumOf (fun μ => sumOf f (dnF (a :: μ))) (upF a r) = sumOf (fun μ => if decide (μ.getD 0 0 < a) = true then f ((a - 1) :: μ) else 0) (upF a r) + sumOf (fun μ => sumOf (fun ν => f (a :: ν)) (dnF μ)) (upF a r) := by
      rw [← sumOf_add]
      apply sumOf_congr
      intro μ hμ
      obtain ⟨h1, h2, h3, h4, h5⟩ := up_head hs.tail hh.2 hμ
      conv => lhs; unfold dnF
      rw [sumOf_app, sumOf_map, sumOf_if]
      congr 1
      by_cases q : μ.getD 0 0 < a
      · rw [if_pos q, if_pos (decide_eq_true q)]
        unfold cons0
        rw [if_neg (by omega)]
      · rw [if_neg q, if_neg (by simpa using q)]
    have e3 : sumOf (fun μ => if decide (μ.getD 0 0 < a) = true then f ((a - 1) :: μ) else 0) (upF a r) = if r.getD 0 0 < a then sumOf (fun μ => f ((a - 1) :: μ)) (upF (a - 1) r) else 0 := by
      rw [sumOf_filter (fun μ => f ((a - 1) :: μ)) (fun μ => decide (μ.getD 0 0 < a)), up_low hs.tail hh.2]
      split
      · rfl
      · rfl
    have e4 := ih (fun ν => f (a :: ν)) (m := a) hs.tail hh.2
    -- below
    have e5 : sumOf (fun ν => sumOf f (upF m ν)) (dnF (a :: r)) = (if r.getD 0 0 < a then f (a :: r) + sumOf (fun μ => f ((a - 1) :: μ)) (upF (a - 1) r) else 0) + sumOf (fun ν => (if a < m then f ((a + 1) :: ν) else 0) + sumOf (fun μ => f (a :: μ)) (upF a ν)) (dnF r) := by
      conv => lhs; unfold dnF
      rw [sumOf_app, sumOf_map, sumOf_if]
      congr 1
      · split
        · rename_i q
          unfold cons0
          by_cases e : a - 1 = 0
          · rw [if_pos e]
            have hr : r = [] := by
              cases r with
              | nil => rfl
              | cons b r =>
                have := hs.tail.head.1
                have q' : b < a := q
                omega
            subst hr
            have ea : a = 1 := by omega
            subst ea
            rw [upF_nil, upF_nil, if_pos (by omega), if_neg (by omega)]
            simp [sumOf]
          · rw [if_neg e, upF_cons, sumOf_app, sumOf_map, sumOf_if, if_pos (by omega), Int.sub_add_cancel]
        · rfl
      · apply sumOf_congr
        intro ν _
        rw [upF_cons, sumOf_app, sumOf_map, sumOf_if]
    rw [e1, e2, e3, e4, e5, sumOf_add]
    by_cases q1 : a < m
    · simp only [if_pos q1]
      by_cases q2 : r.getD 0 0 < a
      · simp only [if_pos q2]; omega
      · simp only [if_neg q2]; omega
    · simp only [if_neg q1]
      have z : sumOf (fun ν => (0 : Int)) (dnF r) = 0 := by
        have := sumOf_mul 0 (fun _ => (0 : Int)) (dnF r)
        simpa using this
      rw [z]
      by_cases q2 : r.getD 0 0 < a
      · simp only [if_pos q2]; omega
      · simp only [if_neg q2]; omega
theorem up_many {m : Int} : ∀ {s : List Int}, IsShape s → s.getD 0 0 ≤ m → ((upF m s).length : Int) = (dnF s).length + (if s.getD 0 0 < m then 1 else 0) := by
  intro s
  induction s generalizing m with
  | nil =>
    intro hs hm
    rw [upF_nil]
    show _ = ((([] : List (List Int)).length : Nat) : Int) + if (0 : Int) < m then 1 else 0
    split <;> simp
  | cons a r ih =>
    intro hs hm
    have hh := hs.head
    have h := ih (m := a) hs.tail hh.2
    show _ = _ + if a < m then (1 : Int) else 0
    rw [upF_cons]
    unfold dnF
    rw [List.length_append, List.length_append, List.length_map, List.length_map]
    by_cases q1 : a < m <;> by_cases q2 : r.getD 0 0 < a <;> simp only [q1, q2, if_true, if_false] at h ⊢ <;> simp <;> omega
/-! ### the ways on, by fewer ones -/
theorem ways_succ {s : List Int} (h : IsShape s) {m : Int} (hm : s.getD 0 0 < m) (n : Nat) : waysF s (n + 1) = sumOf (fun μ => waysF μ n) (upF m s) := by
  show ((widerF s).map fun p => waysF p.2 n).sum = _
  rw [wider_idx h hm]
  unfold sumOf upF
  rw [List.map_map]
  rfl
theorem ways_rec {M : Int} : ∀ (n : Nat) {s : List Int}, IsShape s → s.getD 0 0 + (n : Int) + 1 < M → waysF s (n + 1) = sumOf (fun ν => waysF ν n) (dnF s) + waysF s n + (n : Int) * waysF s (n - 1)
  | 0, s, h, hm => by
    rw [ways_succ h (m := M) (by omega)]
    have h1 : ∀ l : List (List Int), sumOf (fun ν => waysF ν 0) l = (l.length : Int) := fun l => by
      induction l with
      | nil => rfl
      | cons a l ih => rw [sumOf_cons, ih, List.length_cons]; show 1 + (l.length : Int) = _; omega
    rw [h1, h1, up_many h (by omega), if_pos (by omega)]
    show _ = _ + 1 + (0 : Int) * _
    omega
  | n + 1, s, h, hm => by
    have hM : s.getD 0 0 < M := by omega
    rw [ways_succ h hM]
    have e1 : sumOf (fun μ => waysF μ (n + 1)) (upF M s) = sumOf (fun μ => sumOf (fun ν => waysF ν n) (dnF μ) + (waysF μ n + (n : Int) * waysF μ (n - 1))) (upF M s) := by
      apply sumOf_congr
      intro μ hμ
      obtain ⟨h1, h2, h3, h4, h5⟩ := up_head h (by omega) hμ
      rw [ways_rec (M := M) n h1 (by omega)]
      omega
    have e2 := up_down (fun ν => waysF ν n) h (m := M) (by omega)
    rw [if_pos hM] at e2
    have e3 : sumOf (fun ν => sumOf (fun μ => waysF μ n) (upF M ν)) (dnF s) = sumOf (fun ν => waysF ν (n + 1)) (dnF s) := by
      apply sumOf_congr
      intro ν hν
      obtain ⟨h1, h2⟩ := dn_head h hν
      rw [ways_succ h1 (m := M) (by omega)]
    rw [e1, sumOf_add, e2, e3, sumOf_add, sumOf_mul, ← ways_succ h hM n]
    cases n with
    | zero =>
      show _ + waysF s 0 + (waysF s 1 + (0 : Int) * _) = _ + waysF s 1 + (((0 + 1 : Nat) : Int)) * waysF s 0
      have : (((0 + 1 : Nat) : Int)) = 1 := rfl
      rw [this]
      omega
    | succ k =>
      rw [show k + 1 - 1 = k from rfl, ← ways_succ h hM k]
      show _ + waysF s (k + 1) + (waysF s (k + 1 + 1) + ((k + 1 : Nat) : Int) * waysF s (k + 1)) = _ + waysF s (k + 1 + 1) + ((k + 1 + 1 : Nat) : Int) * waysF s (k + 1)
      have : ((k + 1 + 1 : Nat) : Int) * waysF s (k + 1) = ((k + 1 : Nat) : Int) * waysF s (k + 1) + waysF s (k + 1) := by
        rw [show ((k + 1 + 1 : Nat) : Int) = ((k + 1 : Nat) : Int) + 1 by omega, Int.add_mul, Int.one_mul]
      rw [this]
      omega
theorem ways_nil (n : Nat) : waysF [] (n + 1) = waysF [] n + (n : Int) * waysF [] (n - 1) := by
  rw [ways_rec (M := (n : Int) + 2) n isShape_nil (by show (0 : Int) + (n : Int) + 1 < _; omega)]
  show sumOf _ [] + _ + _ = _
  rw [sumOf_nil, Int.zero_add]
end Oa
/-! all rows of counts of a length, in order -/
namespace Oa
def genR : List Int → Nat → List (List Int)
  | _, 0 => [[]]
  | s, n + 1 => (widerF s).flatMap fun p => (genR p.2 n).map fun t => (p.1 : Int) :: t
theorem flatLen {α β : Type} (F : α → List β) : ∀ l : List α, ((l.flatMap F).length : Int) = (l.map fun a => ((F a).length : Int)).sum
  | [] => rfl
  | a :: l => by rw [List.flatMap_cons, List.length_append, List.map_cons, List.sum_cons, ← flatLen F l]; omega
theorem genR_len : ∀ (n : Nat) (s : List Int), ((genR s n).length : Int) = waysF s n
  | 0, s => rfl
  | n + 1, s => by
    show (((widerF s).flatMap _).length : Int) = ((widerF s).map fun p => waysF p.2 n).sum
    rw [flatLen]
    congr 1
    apply List.map_congr_left
    intro p _
    rw [List.length_map, genR_len n p.2]
theorem ways_pos : ∀ (n : Nat) (s : List Int), 0 < waysF s n
  | 0, s => by show (0 : Int) < 1; decide
  | n + 1, s => by
    rw [← genR_len]
    have h0 : (0, bumpF s 0) ∈ widerF s := by
      unfold widerF
      refine List.mem_map.mpr ⟨0, List.mem_filter.mpr ⟨List.mem_range.mpr (by omega), rfl⟩, rfl⟩
    have h1 := ways_pos n (bumpF s 0)
    rw [← genR_len] at h1
    obtain ⟨t, ht⟩ : ∃ t, t ∈ genR (bumpF s 0) n := by
      cases e : genR (bumpF s 0) n with
      | nil => rw [e] at h1; simp at h1
      | cons a l => exact ⟨a, List.mem_cons_self ..⟩
    have : ((0 : Nat) : Int) :: t ∈ genR s (n + 1) := List.mem_flatMap.mpr ⟨_, h0, List.mem_map.mpr ⟨t, ht, rfl⟩⟩
    have := List.length_pos_of_mem this
    omega
theorem wider_mem {s : List Int} {p : Nat × List Int} (h : p ∈ widerF s) : p.1 ≤ s.length ∧ condW s p.1 = true ∧ p.2 = bumpF s p.1 := by
  unfold widerF at h
  obtain ⟨i, hi, rfl⟩ := List.mem_map.mp h
  obtain ⟨h1, h2⟩ := List.mem_filter.mp hi
  exact ⟨by have := List.mem_range.mp h1; show i ≤ _; omega, h2, rfl⟩
theorem mem_wider {s : List Int} {i : Nat} (h1 : i ≤ s.length) (h2 : condW s i = true) : (i, bumpF s i) ∈ widerF s :=
  List.mem_map.mpr ⟨i, List.mem_filter.mpr ⟨List.mem_range.mpr (by omega), h2⟩, rfl⟩
theorem wider_rise (s : List Int) : (widerF s).Pairwise fun p q => p.1 < q.1 := by
  unfold widerF
  rw [List.pairwise_map]
  exact (List.pairwise_lt_range.filter _).imp fun {a b} q => q
theorem wider_shape {s : List Int} (h : IsShape s) {p : Nat × List Int} (hp : p ∈ widerF s) : IsShape p.2 := by
  rw [wider_idx h (m := s.getD 0 0 + 1) (by omega)] at hp
  exact (up_head h (m := s.getD 0 0 + 1) (by omega) (List.mem_map.mpr ⟨p, hp, rfl⟩)).1
theorem bump_getD {s : List Int} {i : Nat} (hi : i ≤ s.length) (k : Nat) : (bumpF s i).getD k 0 = s.getD k 0 + if k = i then 1 else 0 := by
  unfold bumpF
  rw [List.getD_eq_getElem?_getD, List.append_assoc]
  by_cases h1 : k < i
  · rw [List.getElem?_append_left (by rw [List.length_take]; omega), List.getElem?_take, if_pos h1, if_neg (by omega), List.getD_eq_getElem?_getD, Int.add_zero]
  · rw [List.getElem?_append_right (by rw [List.length_take]; omega), List.length_take, Nat.min_eq_left hi]
    by_cases h2 : k = i
    · subst h2
      rw [if_pos rfl, Nat.sub_self]
      show (if k < s.length then s.getD k 0 + 1 else 1) = _
      by_cases h3 : k < s.length
      · rw [if_pos h3]
      · rw [if_neg h3]
        have : s.getD k 0 = 0 := by rw [List.getD_eq_getElem?_getD, List.getElem?_eq_none (by omega)]; rfl
        omega
    · rw [if_neg h2]
      obtain ⟨j, hj⟩ : ∃ j, k - i = j + 1 := ⟨k - i - 1, by omega⟩
      rw [hj, List.singleton_append, List.getElem?_cons_succ, List.getElem?_drop, show i + 1 + j = k by omega, List.getD_eq_getElem?_getD, Int.add_zero]
theorem sum_split : ∀ (l : List Int) (i : Nat), l.sum = (l.take i).sum + (l.drop i).sum := fun l i => by
  conv => lhs; rw [← List.take_append_drop i l]
  rw [List.sum_append]
theorem bump_sum {s : List Int} {i : Nat} (hi : i ≤ s.length) : (bumpF s i).sum = s.sum + 1 := by
  unfold bumpF
  rw [List.sum_append, List.sum_append, List.sum_singleton, sum_split s i]
  by_cases h : i < s.length
  · rw [if_pos h, drop_next h, List.sum_cons]; omega
  · rw [if_neg h, List.drop_of_length_le (show s.length ≤ i + 1 by omega), List.drop_of_length_le (show s.length ≤ i by omega)]; simp
/-! ### the shape of a row -/
structure ShapeOf (row s : List Int) : Prop where
  sh : IsShape s
  cnt : ∀ k : Nat, ((row.count (k : Int) : Nat) : Int) = s.getD k 0
  sum : s.sum = (row.length : Int)
theorem shapeOf_nil : ShapeOf [] [] := ⟨isShape_nil, fun k => by simp, rfl⟩
theorem ShapeOf.next {row s : List Int} (h : ShapeOf row s) {p : Nat × List Int} (hp : p ∈ widerF s) : ShapeOf (row ++ [(p.1 : Int)]) p.2 := by
  obtain ⟨h1, h2, h3⟩ := wider_mem hp
  refine ⟨wider_shape h.sh hp, fun k => ?_, ?_⟩
  · rw [h3, bump_getD h1, ← h.cnt k, List.count_append, List.count_singleton]
    by_cases e : k = p.1
    · rw [if_pos e, e]; simp
    · have : ((p.1 : Int) == (k : Int)) = false := by rw [beq_eq_false_iff_ne]; omega
      rw [if_neg e, this]; simp
  · rw [h3, bump_sum h1, h.sum, List.length_append]; simp
theorem shape_len : ∀ {s : List Int}, (∀ x ∈ s, 1 ≤ x) → (s.length : Int) ≤ s.sum
  | [], _ => by simp
  | a :: r, h => by
    have h1 := h a (List.mem_cons_self ..)
    have h2 := shape_len fun x hx => h x (List.mem_cons_of_mem a hx)
    rw [List.length_cons, List.sum_cons]
    omega
theorem ShapeOf.le {row s : List Int} (h : ShapeOf row s) : s.length ≤ row.length := by
  have h1 := shape_len h.sh.2
  have h2 := h.sum
  omega
def condR (row : List Int) (k : Nat) : Bool := decide (k = 0) || decide (row.count ((k : Int) - 1) > row.count (k : Int))
def nextR (row : List Int) : List (List Int) := ((List.range (row.length + 1)).filter (condR row)).map fun k : Nat => row ++ [(k : Int)]
theorem ShapeOf.cond {row s : List Int} (h : ShapeOf row s) (k : Nat) : condR row k = (decide (k ≤ s.length) && condW s k) := by
  unfold condR condW
  by_cases e0 : k = 0
  · rw [decide_eq_true e0, decide_eq_true (show k ≤ s.length by omega)]; rfl
  · rw [decide_eq_false e0, Bool.false_or, Bool.false_or]
    have c1 := h.cnt (k - 1)
    have c2 := h.cnt k
    rw [show ((k - 1 : Nat) : Int) = (k : Int) - 1 by omega] at c1
    by_cases e1 : k ≤ s.length
    · rw [decide_eq_true e1, Bool.true_and]
      by_cases e2 : k = s.length
      · rw [decide_eq_true e2, Bool.true_or]
        have h1 : s.getD k 0 = 0 := by rw [List.getD_eq_getElem?_getD, List.getElem?_eq_none (by omega)]; rfl
        have h2 := shape_at h.sh (i := k - 1) (by omega)
        exact decide_eq_true (by omega)
      · rw [decide_eq_false e2, Bool.false_or]
        by_cases q : s.getD k 0 < s.getD (k - 1) 0
        · rw [decide_eq_true q]; exact decide_eq_true (by omega)
        · rw [decide_eq_false q]; exact decide_eq_false (by omega)
    · rw [decide_eq_false e1, Bool.false_and]
      have h1 : s.getD (k - 1) 0 = 0 := by rw [List.getD_eq_getElem?_getD, List.getElem?_eq_none (by omega)]; rfl
      exact decide_eq_false (by omega)
theorem ShapeOf.nexts {row s : List Int} (h : ShapeOf row s) : nextR row = (widerF s).map fun p => row ++ [(p.1 : Int)] := by
  unfold nextR widerF
  rw [List.map_map]
  have hl := h.le
  have e : List.range (row.length + 1) = List.range (s.length + 1) ++ (List.range (row.length - s.length)).map (s.length + 1 + ·) := by
    rw [← List.range_add]; congr 1; omega
  rw [e, List.filter_append, List.map_append]
  have e1 : ((List.range (row.length - s.length)).map (s.length + 1 + ·)).filter (condR row) = [] := by
    rw [List.filter_eq_nil_iff]
    intro k hk
    obtain ⟨j, _, rfl⟩ := List.mem_map.mp hk
    rw [h.cond, decide_eq_false (by omega)]
    simp
  have e2 : (List.range (s.length + 1)).filter (condR row) = (List.range (s.length + 1)).filter (condW s) := by
    apply List.filter_congr
    intro k hk
    have := List.mem_range.mp hk
    rw [h.cond, decide_eq_true (show k ≤ s.length by omega), Bool.true_and]
  rw [e1, e2, List.map_nil, List.append_nil]
  rfl
/-! ### level by level, and from a row on -/
def rowsF : Nat → List (List Int)
  | 0 => [[]]
  | n + 1 => (rowsF n).flatMap nextR
def allR : List Int → Nat → List (List Int)
  | row, 0 => [row]
  | row, n + 1 => (nextR row).flatMap fun p => allR p n
theorem allR_snoc : ∀ (n : Nat) (row : List Int), allR row (n + 1) = (allR row n).flatMap nextR
  | 0, row => by
    show (nextR row).flatMap (fun p => [p]) = [row].flatMap nextR
    rw [List.flatMap_singleton]
    exact List.flatMap_singleton' _
  | n + 1, row => by
    show (nextR row).flatMap (fun p => allR p (n + 1)) = ((nextR row).flatMap fun p => allR p n).flatMap nextR
    rw [List.flatMap_assoc]
    congr 1
    funext p
    exact allR_snoc n p
theorem rows_all : ∀ n : Nat, rowsF n = allR [] n
  | 0 => rfl
  | n + 1 => by rw [allR_snoc, ← rows_all n]; rfl
theorem allR_gen : ∀ (n : Nat) {row s : List Int}, ShapeOf row s → allR row n = (genR s n).map fun t => row ++ t
  | 0, row, s, h => by show [row] = [row ++ []]; rw [List.append_nil]
  | n + 1, row, s, h => by
    show (nextR row).flatMap (fun p => allR p n) = ((widerF s).flatMap _).map _
    rw [h.nexts, List.flatMap_map, List.map_flatMap, List.flatMap_def, List.flatMap_def]
    congr 1
    apply List.map_congr_left
    intro p hp
    rw [allR_gen n (h.next hp), List.map_map]
    apply List.map_congr_left
    intro t _
    show row ++ [(p.1 : Int)] ++ t = row ++ (p.1 : Int) :: t
    rw [List.append_assoc]
    rfl
theorem rows_gen (n : Nat) : rowsF n = genR [] n := by
  rw [rows_all, allR_gen n shapeOf_nil]
  exact List.map_id' _
/-! ### good rows -/
theorem leftF_app {row : List Int} {j : Nat} (h : j < row.length) (t : List Int) : leftF (row ++ t) j = leftF row j := by
  unfold leftF
  have e1 : (row ++ t).getD j 0 = row.getD j 0 := by rw [List.getD_eq_getElem?_getD, List.getD_eq_getElem?_getD, List.getElem?_append_left h]
  have e2 : (row ++ t).take j = row.take j := List.take_append_of_le_length (by omega)
  rw [e1, e2]
theorem leftF_last (row : List Int) (x : Int) : leftF (row ++ [x]) row.length = if x ≤ 0 then (if x = 0 then 1 else 0) else ((row.count (x - 1) : Nat) : Int) - ((row.count x : Nat) : Int) := by
  unfold leftF
  have e1 : (row ++ [x]).getD row.length 0 = x := by rw [List.getD_eq_getElem?_getD, List.getElem?_append_right (Nat.le_refl _), Nat.sub_self]; rfl
  have e2 : (row ++ [x]).take row.length = row := List.take_left
  rw [e1, e2]
theorem good_snoc {row : List Int} {x : Int} : Good (row ++ [x]) ↔ Good row ∧ 1 ≤ leftF (row ++ [x]) row.length := by
  constructor
  · intro h
    refine ⟨fun i hi => ?_, h _ (by simp)⟩
    rw [← leftF_app hi [x]]
    exact h i (by rw [List.length_append]; omega)
  · rintro ⟨h1, h2⟩ i hi
    rw [List.length_append, List.length_singleton] at hi
    by_cases e : i = row.length
    · rw [e]; exact h2
    · rw [leftF_app (by omega)]; exact h1 i (by omega)
theorem ShapeOf.good {row s : List Int} (h : ShapeOf row s) {k : Nat} : 1 ≤ leftF (row ++ [(k : Int)]) row.length ↔ k ≤ s.length ∧ condW s k = true := by
  rw [leftF_last]
  have hc := h.cond k
  have e : (k ≤ s.length ∧ condW s k = true) ↔ condR row k = true := by rw [hc, Bool.and_eq_true, decide_eq_true_eq]
  rw [e]
  unfold condR
  rw [Bool.or_eq_true, decide_eq_true_eq, decide_eq_true_eq]
  by_cases e0 : k = 0
  · subst e0; simp
  · rw [if_neg (by omega)]; omega
theorem gen_good : ∀ (n : Nat) {row s t : List Int}, ShapeOf row s → Good row → t ∈ genR s n → Good (row ++ t) ∧ t.length = n
  | 0, row, s, t, h, hg, ht => by rw [List.mem_singleton.mp ht, List.append_nil]; exact ⟨hg, rfl⟩
  | n + 1, row, s, t, h, hg, ht => by
    obtain ⟨p, hp, ht2⟩ := List.mem_flatMap.mp ht
    obtain ⟨u, hu, rfl⟩ := List.mem_map.mp ht2
    obtain ⟨h1, h2, h3⟩ := wider_mem hp
    have hg2 : Good (row ++ [(p.1 : Int)]) := good_snoc.mpr ⟨hg, h.good.mpr ⟨h1, h2⟩⟩
    obtain ⟨h4, h5⟩ := gen_good n (h.next hp) hg2 hu
    rw [List.append_assoc] at h4
    exact ⟨h4, by rw [List.length_cons, h5]⟩
theorem good_nil : Good [] := fun i hi => absurd hi (Nat.not_lt_zero _)
theorem gen_ok {n : Nat} {t : List Int} (h : t ∈ genR [] n) : Good t ∧ t.length = n := by
  have := gen_good n shapeOf_nil good_nil h
  exact this
/-- what comes in a good row -/
theorem ShapeOf.step {row s : List Int} (h : ShapeOf row s) {x : Int} (hx : 1 ≤ leftF (row ++ [x]) row.length) : ∃ k : Nat, x = (k : Int) ∧ (k, bumpF s k) ∈ widerF s := by
  have h0 : 0 ≤ x := by
    rw [leftF_last] at hx
    by_cases q : x ≤ 0
    · rw [if_pos q] at hx
      by_cases z : x = 0
      · omega
      · rw [if_neg z] at hx; omega
    · omega
  refine ⟨x.toNat, by omega, ?_⟩
  have e : x = ((x.toNat : Nat) : Int) := by omega
  rw [e] at hx
  obtain ⟨h1, h2⟩ := h.good.mp hx
  exact mem_wider h1 h2
theorem gen_mem : ∀ (t : List Int) {row s : List Int}, ShapeOf row s → Good (row ++ t) → t ∈ genR s t.length
  | [], row, s, h, hg => List.mem_singleton.mpr rfl
  | x :: t, row, s, h, hg => by
    have e : row ++ x :: t = (row ++ [x]) ++ t := by rw [List.append_assoc]; rfl
    have hx : 1 ≤ leftF (row ++ [x]) row.length := by
      have := hg row.length (by rw [List.length_append, List.length_cons]; omega)
      rw [e, leftF_app (by simp)] at this
      exact this
    obtain ⟨k, rfl, hk⟩ := h.step hx
    rw [e] at hg
    have := gen_mem t (h.next hk) hg
    exact List.mem_flatMap.mpr ⟨_, hk, List.mem_map.mpr ⟨t, this, rfl⟩⟩
theorem mem_gen {t : List Int} (h : Good t) : t ∈ genR [] t.length := gen_mem t shapeOf_nil h
/-! ### the number of a row -/
def lowF (s : List Int) (x : Int) (n : Nat) : Int := (((widerF s).filter fun p => decide ((p.1 : Int) < x)).map fun p => waysF p.2 n).sum
def rankF : List Int → List Int → Int
  | _, [] => 0
  | s, x :: r => lowF s x r.length + rankF (bumpF s x.toNat) r
theorem flat_split {α β : Type} (F : α → List β) : ∀ (l : List α) (k : Nat) (y : β), (l.flatMap F)[k]? = some y → ∃ pre a post j, l = pre ++ a :: post ∧ (F a)[j]? = some y ∧ k = (pre.flatMap F).length + j
  | [], k, y, h => by simp at h
  | a :: l, k, y, h => by
    rw [List.flatMap_cons] at h
    by_cases hk : k < (F a).length
    · rw [List.getElem?_append_left hk] at h
      exact ⟨[], a, l, k, rfl, h, by simp⟩
    · rw [List.getElem?_append_right (by omega)] at h
      obtain ⟨pre, b, post, j, h1, h2, h3⟩ := flat_split F l _ y h
      exact ⟨a :: pre, b, post, j, by rw [h1]; rfl, h2, by rw [List.flatMap_cons, List.length_append]; omega⟩
theorem filter_split {l pre post : List (Nat × List Int)} {a : Nat × List Int} (hr : l.Pairwise fun p q => p.1 < q.1) (h : l = pre ++ a :: post) : (l.filter fun p => decide ((p.1 : Int) < (a.1 : Int))) = pre := by
  subst h
  obtain ⟨h1, h2, h3⟩ := List.pairwise_append.mp hr
  obtain ⟨h4, h5⟩ := List.pairwise_cons.mp h2
  rw [List.filter_append]
  have e1 : pre.filter (fun p => decide ((p.1 : Int) < (a.1 : Int))) = pre := List.filter_eq_self.mpr fun p hp => decide_eq_true (by have := h3 p hp a (List.mem_cons_self ..); omega)
  have e2 : (a :: post).filter (fun p => decide ((p.1 : Int) < (a.1 : Int))) = [] := by
    rw [List.filter_eq_nil_iff]
    intro p hp
    simp only [decide_eq_true_eq]
    rcases List.mem_cons.mp hp with q | q
    · rw [q]; omega
    · have := h4 p q; omega
  rw [e1, e2, List.append_nil]
theorem low_split {s : List Int} {pre post : List (Nat × List Int)} {a : Nat × List Int} (h : widerF s = pre ++ a :: post) (n : Nat) : lowF s (a.1 : Int) n = (((pre.flatMap fun p => (genR p.2 n).map fun t => (p.1 : Int) :: t)).length : Int) := by
  unfold lowF
  rw [filter_split (wider_rise s) h, flatLen]
  congr 1
  apply List.map_congr_left
  intro p _
  rw [List.length_map, genR_len]
theorem rank_get : ∀ (n : Nat) (s : List Int) (k : Nat) (t : List Int), (genR s n)[k]? = some t → rankF s t = (k : Int) ∧ t.length = n
  | 0, s, k, t, h => by
    cases k with
    | zero => cases h; exact ⟨rfl, rfl⟩
    | succ k => simp [genR] at h
  | n + 1, s, k, t, h => by
    obtain ⟨pre, a, post, j, h1, h2, h3⟩ := flat_split _ (widerF s) k t h
    rw [List.getElem?_map] at h2
    obtain ⟨u, hu, rfl⟩ := Option.map_eq_some_iff.mp h2
    obtain ⟨h4, h5⟩ := rank_get n a.2 j u hu
    have ha : a ∈ widerF s := by rw [h1]; simp
    obtain ⟨q1, q2, q3⟩ := wider_mem ha
    refine ⟨?_, by rw [List.length_cons, h5]⟩
    show lowF s (a.1 : Int) u.length + rankF (bumpF s ((a.1 : Int)).toNat) u = (k : Int)
    rw [h5, Int.toNat_natCast, ← q3, h4, low_split h1, h3]
    omega
/-- the row of a number -/
def rowF (n : Nat) (k : Int) : List Int := (genR [] n).getD k.toNat []
theorem rowF_at {n : Nat} {k : Int} (h0 : 0 ≤ k) (h1 : k < waysF [] n) : (genR [] n)[k.toNat]? = some (rowF n k) := by
  have hl := genR_len n []
  unfold rowF
  rw [List.getD_eq_getElem?_getD, List.getElem?_eq_getElem (show k.toNat < (genR [] n).length by omega)]
  rfl
theorem rank_row {n : Nat} {k : Int} (h0 : 0 ≤ k) (h1 : k < waysF [] n) : rankF [] (rowF n k) = k := by
  rw [(rank_get n [] _ _ (rowF_at h0 h1)).1]; omega
theorem row_ok {n : Nat} {k : Int} (h0 : 0 ≤ k) (h1 : k < waysF [] n) : Good (rowF n k) ∧ (rowF n k).length = n := gen_ok (List.mem_of_getElem? (rowF_at h0 h1))
theorem row_rank {t : List Int} (h : Good t) : 0 ≤ rankF [] t ∧ rankF [] t < waysF [] t.length ∧ rowF t.length (rankF [] t) = t := by
  obtain ⟨k, hk⟩ := List.getElem?_of_mem (mem_gen h)
  have h1 := (rank_get _ [] k t hk).1
  have h2 := (List.getElem?_eq_some_iff.mp hk).1
  have hl := genR_len t.length []
  rw [h1]
  refine ⟨by omega, by omega, ?_⟩
  unfold rowF
  rw [Int.toNat_natCast, List.getD_eq_getElem?_getD, hk]
  rfl
theorem rows_by (n : Nat) : rowsF n = (List.range (waysF [] n).toNat).map fun k : Nat => rowF n (k : Int) := by
  rw [rows_gen]
  have hl := genR_len n []
  apply List.ext_getElem?
  intro i
  rw [List.getElem?_map]
  by_cases hi : i < (genR [] n).length
  · rw [List.getElem?_range (by omega), List.getElem?_eq_getElem hi]
    show _ = some (rowF n (i : Int))
    unfold rowF
    rw [Int.toNat_natCast, List.getD_eq_getElem?_getD, List.getElem?_eq_getElem hi]
    rfl
  · rw [List.getElem?_eq_none (by omega), List.getElem?_eq_none (by rw [List.length_range]; omega)]
    rfl
theorem gen_rise : ∀ (n : Nat) (s : List Int), (genR s n).Pairwise (· < ·)
  | 0, s => by show ([[]] : List (List Int)).Pairwise _; simp
  | n + 1, s => by
    show ((widerF s).flatMap _).Pairwise _
    rw [List.pairwise_flatMap]
    refine ⟨fun p _ => ?_, (wider_rise s).imp fun {p q} h x hx y hy => ?_⟩
    · rw [List.pairwise_map]
      exact (gen_rise n p.2).imp fun {a b} h => List.cons_lt_cons_iff.mpr (.inr ⟨rfl, h⟩)
    · obtain ⟨u, _, rfl⟩ := List.mem_map.mp hx
      obtain ⟨v, _, rfl⟩ := List.mem_map.mp hy
      exact List.cons_lt_cons_iff.mpr (.inl (by omega))
theorem rowF_le {n : Nat} {x y : Int} (h0 : 0 ≤ x) (h1 : x ≤ y) (h2 : y < waysF [] n) : ¬ rowF n y < rowF n x := by
  by_cases e : x = y
  · rw [e]; exact List.lt_irrefl _
  · have hl := genR_len n []
    have a1 := rowF_at h0 (n := n) (by omega)
    have a2 := rowF_at (k := y) (n := n) (by omega) h2
    obtain ⟨b1, c1⟩ := List.getElem?_eq_some_iff.mp a1
    obtain ⟨b2, c2⟩ := List.getElem?_eq_some_iff.mp a2
    have := List.pairwise_iff_getElem.mp (gen_rise n []) x.toNat y.toNat b1 b2 (by omega)
    rw [c1, c2] at this
    exact List.lt_asymm this
end Oa
namespace Oa
/-! ### numbers on paper -/
def inv2 : Nat → Int × Int
  | 0 => (1, 1)
  | n + 1 => ((inv2 n).2, (inv2 n).2 + ((n + 1 : Nat) : Int) * (inv2 n).1)
theorem ways_inv : ∀ n : Nat, waysF [] n = (inv2 n).1 ∧ waysF [] (n + 1) = (inv2 n).2
  | 0 => ⟨rfl, by decide⟩
  | n + 1 => by
    obtain ⟨h1, h2⟩ := ways_inv n
    refine ⟨h2, ?_⟩
    rw [ways_nil (n + 1), h2, show n + 1 - 1 = n from rfl, h1]
    rfl
theorem wider_nil : widerF [] = [(0, [1])] := by decide
theorem ways_one (n : Nat) : waysF [1] n = waysF [] (n + 1) := by
  show _ = ((widerF []).map fun p => waysF p.2 n).sum
  rw [wider_nil]
  simp
theorem isShape_two : IsShape [2] := ⟨by simp, by simp⟩
def inv3 : Nat → Int × Int
  | 0 => (1, 2)
  | n + 1 => ((inv3 n).2, (inv2 (n + 2)).1 + (inv3 n).2 + ((n + 1 : Nat) : Int) * (inv3 n).1)
theorem ways_two_rec (n : Nat) : waysF [2] (n + 1) = waysF [] (n + 1) + waysF [2] n + (n : Int) * waysF [2] (n - 1) := by
  rw [ways_rec (M := (n : Int) + 4) n isShape_two (by show (2 : Int) + (n : Int) + 1 < _; omega)]
  have : dnF [2] = [[1]] := by decide
  rw [this, sumOf_cons, sumOf_nil, Int.add_zero, ways_one]
theorem ways_two : ∀ n : Nat, waysF [2] n = (inv3 n).1 ∧ waysF [2] (n + 1) = (inv3 n).2
  | 0 => ⟨rfl, by decide⟩
  | n + 1 => by
    obtain ⟨h1, h2⟩ := ways_two n
    refine ⟨h2, ?_⟩
    rw [ways_two_rec (n + 1), h2, show n + 1 - 1 = n from rfl, h1, (ways_inv (n + 2)).1]
    rfl
theorem ways_20 : waysF [] 20 = 23758664096 := by rw [(ways_inv 20).1]; decide +kernel
theorem ways_2_18 : waysF [2] 18 = 11879332048 := by rw [(ways_two 18).1]; decide +kernel
/-- the first row, the last row from a shape on -/
theorem low_zero (s : List Int) (n : Nat) : lowF s 0 n = 0 := by
  unfold lowF
  rw [List.filter_eq_nil_iff.mpr]
  · rfl
  · intro p _
    simp only [decide_eq_true_eq]
    omega
theorem rank_zeros : ∀ (n : Nat) (s : List Int), rankF s (List.replicate n 0) = 0
  | 0, s => rfl
  | n + 1, s => by
    rw [List.replicate_succ]
    show lowF s 0 _ + rankF _ (List.replicate n 0) = 0
    rw [low_zero, rank_zeros n]
    rfl
def lastR (l : Nat) : Nat → List Int
  | 0 => []
  | n + 1 => (l : Int) :: lastR (l + 1) n
theorem lastR_len : ∀ (n l : Nat), (lastR l n).length = n
  | 0, _ => rfl
  | n + 1, l => by show (lastR (l + 1) n).length + 1 = n + 1; rw [lastR_len n]
theorem wider_last (s : List Int) : widerF s = ((List.range s.length).filter (condW s)).map (fun i => (i, bumpF s i)) ++ [(s.length, bumpF s s.length)] := by
  unfold widerF
  have h : condW s s.length = true := by unfold condW; rw [decide_eq_true rfl]; simp
  rw [List.range_succ, List.filter_append, List.map_append, List.filter_cons, if_pos h]
  rfl
theorem bump_last (s : List Int) : (bumpF s s.length).length = s.length + 1 := by
  unfold bumpF
  rw [List.take_length, if_neg (by omega), List.drop_of_length_le (by omega)]
  simp
theorem rank_last : ∀ (n : Nat) (s : List Int), rankF s (lastR s.length n) = waysF s n - 1
  | 0, s => rfl
  | n + 1, s => by
    show lowF s (s.length : Int) (lastR (s.length + 1) n).length + rankF (bumpF s ((s.length : Int)).toNat) (lastR (s.length + 1) n) = _
    rw [lastR_len, Int.toNat_natCast, ← bump_last s, rank_last n, low_split (wider_last s), ← genR_len n (bumpF s s.length), ← genR_len (n + 1) s]
    have e : genR s (n + 1) = ((((List.range s.length).filter (condW s)).map fun i => (i, bumpF s i)) ++ [(s.length, bumpF s s.length)]).flatMap fun p => (genR p.2 n).map fun t => (p.1 : Int) :: t := by
      rw [← wider_last s]; rfl
    rw [e, List.flatMap_append, List.length_append, List.flatMap_singleton, List.length_map]
    dsimp only
    omega
/-! ### how many keys there can be -/
def encS : List Int → Nat
  | [] => 0
  | a :: r => 2 ^ (a.toNat - 1) * (2 * encS r + 1)
theorem encS_lt : ∀ {s : List Int}, (∀ x ∈ s, 1 ≤ x) → encS s < 2 ^ s.sum.toNat
  | [], _ => by decide
  | a :: r, h => by
    have h1 := h a (List.mem_cons_self ..)
    have hr : ∀ x ∈ r, 1 ≤ x := fun x hx => h x (List.mem_cons_of_mem _ hx)
    have h2 := encS_lt hr
    have h3 := shape_len hr
    have e : (a :: r).sum.toNat = (a.toNat - 1) + (r.sum.toNat + 1) := by rw [List.sum_cons]; omega
    rw [e, Nat.pow_add]
    show 2 ^ (a.toNat - 1) * (2 * encS r + 1) < _
    refine Nat.mul_lt_mul_of_pos_left ?_ (Nat.pow_pos (by decide))
    rw [Nat.pow_succ]
    omega
theorem odd_inj : ∀ (i j x y : Nat), 2 ^ i * (2 * x + 1) = 2 ^ j * (2 * y + 1) → i = j ∧ x = y
  | 0, 0, x, y, h => by simp at h; omega
  | 0, j + 1, x, y, h => by
    have e2 : 2 ^ (j + 1) * (2 * y + 1) = 2 * (2 ^ j * (2 * y + 1)) := by rw [Nat.pow_succ, Nat.mul_comm (2 ^ j) 2, Nat.mul_assoc]
    rw [e2] at h
    simp only [Nat.pow_zero, Nat.one_mul] at h
    omega
  | i + 1, 0, x, y, h => by
    have e1 : 2 ^ (i + 1) * (2 * x + 1) = 2 * (2 ^ i * (2 * x + 1)) := by rw [Nat.pow_succ, Nat.mul_comm (2 ^ i) 2, Nat.mul_assoc]
    rw [e1] at h
    simp only [Nat.pow_zero, Nat.one_mul] at h
    omega
  | i + 1, j + 1, x, y, h => by
    have e1 : 2 ^ (i + 1) * (2 * x + 1) = 2 * (2 ^ i * (2 * x + 1)) := by rw [Nat.pow_succ, Nat.mul_comm (2 ^ i) 2, Nat.mul_assoc]
    have e2 : 2 ^ (j + 1) * (2 * y + 1) = 2 * (2 ^ j * (2 * y + 1)) := by rw [Nat.pow_succ, Nat.mul_comm (2 ^ j) 2, Nat.mul_assoc]
    rw [e1, e2] at h
    obtain ⟨h1, h2⟩ := odd_inj i j x y (by omega)
    exact ⟨by omega, h2⟩
theorem encS_inj : ∀ {s t : List Int}, (∀ x ∈ s, 1 ≤ x) → (∀ x ∈ t, 1 ≤ x) → encS s = encS t → s = t
  | [], [], _, _, _ => rfl
  | [], b :: t, _, _, h => by
    have : 0 < 2 ^ (b.toNat - 1) * (2 * encS t + 1) := Nat.mul_pos (Nat.pow_pos (by decide)) (by omega)
    have h' : 0 = 2 ^ (b.toNat - 1) * (2 * encS t + 1) := h
    omega
  | a :: s, [], _, _, h => by
    have : 0 < 2 ^ (a.toNat - 1) * (2 * encS s + 1) := Nat.mul_pos (Nat.pow_pos (by decide)) (by omega)
    have h' : 2 ^ (a.toNat - 1) * (2 * encS s + 1) = 0 := h
    omega
  | a :: s, b :: t, hs, ht, h => by
    have h1 := hs a (List.mem_cons_self ..)
    have h2 := ht b (List.mem_cons_self ..)
    obtain ⟨h3, h4⟩ := odd_inj _ _ _ _ (show 2 ^ (a.toNat - 1) * (2 * encS s + 1) = 2 ^ (b.toNat - 1) * (2 * encS t + 1) from h)
    rw [encS_inj (fun x hx => hs x (List.mem_cons_of_mem _ hx)) (fun x hx => ht x (List.mem_cons_of_mem _ hx)) h4]
    congr 1
    omega
theorem nodup_lt : ∀ (B : Nat) (l : List Nat), l.Nodup → (∀ x ∈ l, x < B) → l.length ≤ B
  | 0, l, _, h => by
    cases l with
    | nil => exact Nat.le_refl _
    | cons a r => exact absurd (h a (List.mem_cons_self ..)) (Nat.not_lt_zero _)
  | B + 1, l, hn, h => by
    have h1 := nodup_lt B (l.filter fun x => decide (x ≠ B)) (hn.filter _) fun x hx => by
      obtain ⟨q1, q2⟩ := List.mem_filter.mp hx
      have := h x q1
      have q3 : x ≠ B := of_decide_eq_true q2
      omega
    have h2 : l.length = (l.filter fun x => decide (x ≠ B)).length + l.count B := by
      clear h1 hn h
      induction l with
      | nil => rfl
      | cons a r ih =>
        rw [List.filter_cons, List.count_cons, List.length_cons, ih]
        by_cases e : a = B
        · rw [if_neg (by simpa using e), e]; simp; omega
        · rw [if_pos (by simpa using e), beq_eq_false_iff_ne.mpr e]; simp; omega
    have h3 := List.nodup_iff_count.mp hn B
    omega
/-! ### more on paper -/
theorem good_zeros (n : Nat) : Good (List.replicate n 0) := by
  intro i hi
  unfold leftF
  rw [List.length_replicate] at hi
  have : (List.replicate n (0 : Int)).getD i 0 = 0 := by rw [List.getD_eq_getElem?_getD, List.getElem?_replicate, if_pos hi]; rfl
  rw [this, if_pos (by decide), if_pos rfl]
  decide
theorem row_first (n : Nat) : rowF n 0 = List.replicate n 0 := by
  have := (row_rank (good_zeros n)).2.2
  rw [rank_zeros, List.length_replicate] at this
  exact this
theorem gen_small : ∀ (n : Nat) (s t : List Int), t ∈ genR s n → ∀ x ∈ t, 0 ≤ x ∧ x ≤ (s.length : Int) + (n : Int)
  | 0, s, t, ht, x, hx => by rw [List.mem_singleton.mp ht] at hx; cases hx
  | n + 1, s, t, ht, x, hx => by
    obtain ⟨p, hp, ht2⟩ := List.mem_flatMap.mp ht
    obtain ⟨u, hu, rfl⟩ := List.mem_map.mp ht2
    obtain ⟨h1, h2, h3⟩ := wider_mem hp
    have hl : p.2.length ≤ s.length + 1 := by
      rw [h3]
      unfold bumpF
      rw [List.length_append, List.length_append, List.length_take, List.length_drop, List.length_singleton]
      omega
    rcases List.mem_cons.mp hx with q | q
    · rw [q]; omega
    · have := gen_small n p.2 u hu x q
      omega
def last20 : List Int := (List.range 20).map fun i : Nat => (i : Int)
def mid19 : List Int := 0 :: (List.range 19).map fun i : Nat => (i : Int)
def mid20 : List Int := [0, 1] ++ List.replicate 18 0
theorem last20_eq : last20 = lastR 0 20 := by decide
theorem mid19_eq : mid19 = 0 :: 0 :: lastR 1 18 := by decide
theorem rank_cons (s : List Int) (x : Int) (r : List Int) : rankF s (x :: r) = lowF s x r.length + rankF (bumpF s x.toNat) r := rfl
theorem rank_last20 : rankF [] last20 = 23758664095 := by
  have h := rank_last 20 []
  rw [ways_20] at h
  rw [last20_eq]
  exact h
theorem bump_00 : bumpF [] (0 : Int).toNat = [1] := by decide
theorem bump_10 : bumpF [1] (0 : Int).toNat = [2] := by decide
theorem rank_mid19 : rankF [] mid19 = 11879332047 := by
  have h := rank_last 18 [2]
  rw [ways_2_18] at h
  rw [mid19_eq, rank_cons, rank_cons, low_zero, low_zero, bump_00, bump_10, Int.zero_add, Int.zero_add]
  exact h
theorem wider_1 : widerF [1] = [(0, [2]), (1, [1, 1])] := by decide
theorem low_1 (n : Nat) : lowF [1] 1 n = waysF [2] n := by
  unfold lowF
  rw [wider_1]
  show (([(0, [2])] : List (Nat × List Int)).map fun p => waysF p.2 n).sum = _
  simp
theorem rank_mid20 : rankF [] mid20 = 11879332048 := by
  have e : mid20 = 0 :: 1 :: List.replicate 18 0 := rfl
  rw [e, rank_cons, rank_cons, low_zero, bump_00, low_1, rank_zeros, List.length_replicate, ways_2_18]
  rfl
end Oa
/-! a dict whose keys are (shape, left) -/
namespace Oa
open PySem PySem.Spec PyProof.Rows L2 Evl
def nk (shape : List Int) (left : Int) : NestedKey := .tup [.tup (shape.map .num), .num left]
abbrev NEnt := NestedKey × Addr × Value
/-- the dict at a, without the tuples themselves -/
structure ND0 (P : Program) (w : World) (a : Addr) (xs : List NEnt) (h : Heap) : Prop where
  sys : (a == sysModules) = false
  ob : ∃ o es ep, h.get? a = some o ∧ o.ExactDict ∧ o.data = .dict es ep ∧ es.toList = xs.map (entryOfKey (nestedKind P w))
  nd : (xs.map (·.1)).Nodup
def NDict (P : Program) (w : World) (a : Addr) (xs : List NEnt) : HO := .ext (ND0 P w a xs)
theorem nd_ok {P : Program} {w : World} {H : Hp} {h : Heap} {a : Addr} {xs : List NEnt} (d : ND0 P w a xs h) : ObjOk P w H h a (NDict P w a xs) := by
  obtain ⟨o, es, ep, e, r⟩ := d.ob
  exact ⟨d, ⟨o, e⟩, fun h1 h2 p k => ⟨p.sys, let ⟨o, es, ep, e, r⟩ := p.ob; ⟨o, es, ep, k o e, r⟩, p.nd⟩⟩
/-- a key that stands in the heap -/
def KeyAt (H : Hp) (t : Addr) (shape : List Int) (left : Int) : Prop := ∃ sh, H t = some (.tup [.ref sh, .int left]) ∧ H sh = some (.tup (shape.map V.int))
theorem nested_nums {h : Heap} : ∀ {ns : List Int} {its : List Value}, Vals (ns.map V.int) its → NestedAll h (ns.map .num) its
  | [], [], _ => .nil
  | n :: r, v :: its, .cons rv rr => by
    obtain ⟨t, rfl⟩ := rv
    exact .cons (.int n t) (nested_nums rr)
theorem num_depth : ∀ ns : List Int, NestedKey.depthAll (ns.map .num) = 0
  | [] => rfl
  | n :: r => by
    show max 0 (NestedKey.depthAll (r.map .num)) = 0
    rw [num_depth r]
    decide
theorem key_is {P : Program} {w : World} {H : Hp} {h : Heap} {t : Addr} {shape : List Int} {left : Int} (ok : HOk P w H h) (k : KeyAt H t shape left) : (nestedKind P w).is h (nk shape left) t := by
  obtain ⟨sh, h1, h2⟩ := k
  obtain ⟨_, i1, r1, o1, g1, c1, n1, d1⟩ := ok t _ h1
  obtain ⟨_, i2, r2, o2, g2, c2, n2, d2⟩ := ok sh _ h2
  obtain ⟨u1, u2, rfl, ra, rb⟩ := vals2 r1
  obtain rfl : u1 = Value.ref sh := ra
  obtain ⟨tk, rfl⟩ := rb
  refine ⟨.tup g1 c1 d1 (.cons (.tup g2 c2 d2 (by simpa using nested_nums r2)) (.cons (.int left tk) .nil)), ?_⟩
  show max (NestedKey.depthAll (shape.map .num) + 1) (max 0 0) + 1 ≤ 8
  rw [num_depth]
  decide
theorem nd_of {P : Program} {w : World} {H : Hp} {h : Heap} {a : Addr} {xs : List NEnt} (ok : HOk P w H h) (e : H a = some (NDict P w a xs)) (hx : ∀ x ∈ xs, ∃ shape left, x.1 = nk shape left ∧ KeyAt H x.2.1 shape left) :
    (a == sysModules) = false ∧ h.DictOfH (nestedKind P w) a xs := by
  obtain ⟨d, _, _⟩ := ok a _ e
  obtain ⟨o, es, ep, e1, e2, e3, e4⟩ := d.ob
  exact ⟨d.sys, o, es, ep, e1, e2, e3, e4, fun x hm => by
    obtain ⟨shape, left, q1, q2⟩ := hx x hm
    rw [q1]
    exact key_is ok q2, d.nd⟩
abbrev Keyed2 (H : Hp) (xs : List NEnt) : Prop := ∀ x ∈ xs, ∃ shape left, x.1 = nk shape left ∧ KeyAt H x.2.1 shape left
def tDNewN (P : Program) (w : World) : TE := fun _ H Q => ∀ p, H p = none → Q (.ref p) (upd H p (NDict P w p []))
def rNotInN (P : Program) (w : World) : R2 := fun x y H Q => ∃ (t a : Addr) (shape : List Int) (left : Int) (xs : List NEnt), x = .ref t ∧ y = .ref a ∧ KeyAt H t shape left ∧ H a = some (NDict P w a xs) ∧ Keyed2 H xs ∧ Q (.bl (!(atKey xs (nk shape left)).isSome)) H
def tNGet (P : Program) (w : World) (td ty : TE) : TE := fun σ H Q => td σ H fun x H1 => ty σ H1 fun y H2 => ∃ (t a : Addr) (shape : List Int) (left : Int) (xs : List NEnt) (b : Addr) (v : V) (u : Value), x = .ref a ∧ y = .ref t ∧ KeyAt H2 t shape left ∧ H2 a = some (NDict P w a xs) ∧ Keyed2 H2 xs ∧
  atKey xs (nk shape left) = some (b, u) ∧ RelV v u ∧ Q v H2
def sNPut (P : Program) (w : World) (td ty tv : TE) : TS := fun D σ H => tv σ H fun v H1 => td σ H1 fun x H2 => ty σ H2 fun y H3 => ∃ (t a : Addr) (shape : List Int) (left : Int) (xs : List NEnt), x = .ref a ∧ y = .ref t ∧ KeyAt H3 t shape left ∧ H3 a = some (NDict P w a xs) ∧ Keyed2 H3 xs ∧ xs.length < sizeLine ∧
  ∀ u, RelV v u → D.nx σ (upd H3 a (NDict P w a (storedH xs (nk shape left) t u)))
section
variable {X : Cx} {pos pos' : Pos} {o i value : Expr} {td ty tv : TE}
theorem pe_dnewN : PE X (.Dict [] [] pos) (tDNewN X.prog X.w) := ⟨fun pins s σ H Q I h =>
  wpAny_Dict_empty ⟨.ref s.heap.objs.size, _, I.laid (a := s.heap.objs.size) (o := NDict X.prog X.w s.heap.objs.size []) (t' := s.toks) (fun _ _ q => Heap.get?_push_of_some _ q) (Nat.le_refl _)
    (nd_ok ⟨beq_eq_false_iff_ne.mpr (Ne.symm (Nat.ne_of_lt I.big)), ⟨_, #[], 0, Heap.get?_push_size _ rfl, ⟨rfl, rfl, rfl⟩, rfl, rfl⟩, List.nodup_nil⟩), rfl, h _ (I.hok.fresh (Nat.le_refl _))⟩⟩
theorem op_notInN (hu : X.A.units + 64 < cLine) : OpR X (compareOp .NotIn) (rNotInN X.prog X.w) := by
  intro pins s σ H x y v u Q I rx ry h
  obtain ⟨t, a, shape, left, xs, rfl, rfl, hk, ha, hx, q⟩ := h
  obtain rfl : v = Value.ref t := rx
  obtain rfl : u = Value.ref a := ry
  obtain ⟨hs, hd⟩ := nd_of I.hok ha hx
  have hroom : (nestedKind X.prog X.w).room X.A.in1 := by show X.A.units + 1 + 8 < cLine; omega
  refine notIn_keyed hroom (key_is I.hok hk) hs ⟨xs, hd, rfl⟩ ?_
  rw [valueAt_pairsH, Option.isSome_map]
  exact ⟨.bl (!(atKey xs (nk shape left)).isSome), H, I.tok _, rfl, q⟩
theorem pe_nget (hu : X.A.units + 64 < cLine) (ho : PE X o td) (hi : PE X i ty) (hs : NoSl i) : PE X (.Subscript o i pos) (tNGet X.prog X.w td ty) := by
  refine ⟨fun pins s σ H Q I h => ?_⟩
  refine subD_of PySem.F.slot_dict_getitem.lookup hs (thn (ho.run pins s σ H _ I h) fun u s1 ⟨x, H1, I1, rx, q1⟩ => thn (hi.run pins s1 σ H1 _ I1 q1) fun iv s2 ⟨y, H2, I2, ry, q2⟩ => ?_)
  obtain ⟨t, a, shape, left, xs, b, v, u', rfl, rfl, hk, ha, hx, hv, rv, q⟩ := q2
  obtain rfl : u = Value.ref a := rx
  obtain rfl : iv = Value.ref t := ry
  obtain ⟨hsy, hd⟩ := nd_of I2.hok ha hx
  have hroom : (nestedKind X.prog X.w).room X.A.in1 := by show X.A.units + 1 + 8 < cLine; omega
  exact ⟨hd.typeIs, wpAny_getItem_heap hroom (key_is I2.hok hk) hd hv ⟨v, H2, I2.tok _, rv, q⟩⟩
theorem ps_nput (hu : X.A.units + 64 < cLine) (ho : PE X o td) (hi : PE X i ty) (hv : PE X value tv) (hs : swapsWith value (some (.Subscript o i pos')) pos.line X.env = pure false) :
    PS X (.Assign [.Subscript o i pos'] value pos) (sNPut X.prog X.w td ty tv) := by
  refine ⟨fun pins s σ H D I h => ?_⟩
  refine wpAny_Assign_Subscript (thn (hv.run pins s σ H _ I h) fun r s1 ⟨v, H1, I1, rv, q1⟩ => thn (ho.run pins s1 σ H1 _ I1 q1) fun u s2 ⟨x, H2, I2, rx, q2⟩ => thn (hi.run pins s2 σ H2 _ I2 q2) fun iv s3 ⟨y, H3, I3, ry, q3⟩ => ?_) hs
  obtain ⟨t, a, shape, left, xs, rfl, rfl, hk, ha, hx, hz, q⟩ := q3
  obtain rfl : u = Value.ref a := rx
  obtain rfl : iv = Value.ref t := ry
  obtain ⟨hsy, hd⟩ := nd_of I3.hok ha hx
  have hroom : (nestedKind X.prog X.w).room X.A.in1 := by show X.A.units + 1 + 8 < cLine; omega
  refine wpAny_setItem_heap (hsz := Nat.le_of_lt hz) hroom (key_is I3.hok hk) hd fun h' hm' hb => ?_
  obtain ⟨o', es, ep, e1, e2, e3, e4, _, e6⟩ := hm'
  exact ⟨σ, _, I3.write (x := a) (e := a) (o := NDict X.prog X.w a (storedH xs (nk shape left) t r)) (by rw [ha]; trivial) (.inl rfl) (fun b u hne e => (hb.2 b hne).trans e) ⟨o', e1⟩ (nd_ok ⟨hsy, ⟨o', es, ep, e1, e2, e3, e4⟩, e6⟩), q r rv⟩
end
end Oa
/-! tuples on the way, what wider hands back, the dict of ways -/
namespace Oa
open PySem PySem.Spec PyProof.Rows L2 Evl
section
variable {K : PySem.W.Frag} {σ : L2.St} {H H' : Hp} {ta tb tc te tx tl : TE} {xs ys : List V}
/-- a tuple, new or old -/
def EvTu (te : TE) (σ : L2.St) (H : Hp) (xs : List V) : Prop := ∀ H1, Ex H H1 → ∀ Q : VK, (∀ a H2, Ex H1 H2 → H2 a = some (.tup xs) → Q (.ref a) H2) → te σ H1 Q
theorem etu_tup {ta : TA} {vs : List V} (h : EvA ta σ H vs) (hl : vs.length ≤ 100000) : EvTu (tTup ta) σ H vs := fun H1 e Q q => eu_tup h hl H1 e Q fun p H2 _ e2 a => q p H2 e2 a
theorem etu_is (h : EvTu te σ H xs) (e : xs = ys) : EvTu te σ H ys := e ▸ h
theorem etu_var {a : Addr} (h : Ev te σ H (.ref a)) (ha : H a = some (.tup xs)) : EvTu te σ H xs := fun H1 e Q q => h H1 e Q fun H2 e2 => q a H2 e2 ((e.trans e2) _ _ ha)
theorem etu_sl {a : Addr} {tl th : TO} {lo hi : Option Int} (h : Ev te σ H (.ref a)) (h1 : EvO tl σ H lo) (h2 : EvO th σ H hi) (ha : H a = some (.tup xs)) : EvTu (tSl (rSlA K) te tl th) σ H (cutV xs lo hi) := fun H1 e Q q =>
  h H1 e _ fun H2 e2 => h1 H2 (e.trans e2) _ fun H3 e3 => h2 H3 ((e.trans e2).trans e3) _ fun H4 e4 => by
    have eA := e.trans (e2.trans (e3.trans e4))
    refine ⟨a, xs, rfl, st_of (eA _ _ ha), fun hw => q a H4 (e2.trans (e3.trans e4)) ?_, fun _ p np => q p _ ((e2.trans (e3.trans e4)).trans (Ex.new np)) upd_same⟩
    have : cutV xs lo hi = xs := by
      unfold cutV
      rw [hw.1, hw.2]
      simp
    rw [this]
    exact eA _ _ ha
theorem etu_cat (ha : EvTu ta σ H xs) (hb : EvTu tb σ H ys) (hl : xs.length + ys.length ≤ 100000) : EvTu (tOp (rCatA K) ta tb) σ H (xs ++ ys) := fun H1 e Q q =>
  ha H1 e _ fun a H2 e2 h2 => hb H2 (e.trans e2) _ fun b H3 e3 h3 => ⟨a, b, xs, ys, rfl, rfl, st_of (e3 _ _ h2), st_of h3, sz_of hl, fun z => by
    subst z
    exact q b H3 (e2.trans e3) h3, fun _ z => by
    subst z
    refine q a H3 (e2.trans e3) ?_
    rw [List.append_nil]
    exact e3 _ _ h2, fun _ _ p np => q p _ ((e2.trans e3).trans (Ex.new np)) upd_same⟩
theorem ev_lenT {p : Addr} {xs : List V} (ha : Ev ta σ H (.ref p)) (h : SqT K H p xs) : Ev (tCB (rLenS K) (tCons ta tNil)) σ H (.int (xs.length : Int)) := fun H1 e Q q =>
  ha H1 e _ fun H2 e2 => ⟨p, xs, rfl, Or.inr (ex_t (e.trans e2) h), q H2 e2⟩
end
/-- what wider hands back: pairs of a number and a shape -/
inductive WiAt (H : Hp) : List V → List (Nat × List Int) → Prop
  | nil : WiAt H [] []
  | cons {t sh : Addr} {p : Nat × List Int} {vs : List V} {ps : List (Nat × List Int)} : H t = some (.tup [.int (p.1 : Int), .ref sh]) → H sh = some (.tup (p.2.map V.int)) → WiAt H vs ps → WiAt H (.ref t :: vs) (p :: ps)
theorem WiAt.mono {H H' : Hp} (e : ∀ a xs, H a = some (.tup xs) → H' a = some (.tup xs)) : ∀ {vs : List V} {ps : List (Nat × List Int)}, WiAt H vs ps → WiAt H' vs ps
  | _, _, .nil => .nil
  | _, _, .cons h1 h2 r => .cons (e _ _ h1) (e _ _ h2) (r.mono e)
theorem WiAt.snoc {H : Hp} {t sh : Addr} {p : Nat × List Int} (h1 : H t = some (.tup [.int (p.1 : Int), .ref sh])) (h2 : H sh = some (.tup (p.2.map V.int))) : ∀ {vs : List V} {ps : List (Nat × List Int)}, WiAt H vs ps → WiAt H (vs ++ [.ref t]) (ps ++ [p])
  | _, _, .nil => .cons h1 h2 .nil
  | _, _, .cons a b r => .cons a b (WiAt.snoc h1 h2 r)
theorem WiAt.len {H : Hp} : ∀ {vs : List V} {ps : List (Nat × List Int)}, WiAt H vs ps → vs.length = ps.length
  | _, _, .nil => rfl
  | _, _, .cons _ _ r => by rw [List.length_cons, List.length_cons, r.len]
theorem WiAt.get {H : Hp} : ∀ {vs : List V} {ps : List (Nat × List Int)}, WiAt H vs ps → ∀ {i : Nat} {p : Nat × List Int}, ps[i]? = some p → ∃ t sh, vs[i]? = some (.ref t) ∧ H t = some (.tup [.int (p.1 : Int), .ref sh]) ∧ H sh = some (.tup (p.2.map V.int))
  | _, _, .nil, i, p, h => by simp at h
  | _, _, .cons a b r, 0, p, h => by
    cases h
    exact ⟨_, _, rfl, a, b⟩
  | _, _, .cons a b r, i + 1, p, h => r.get (by simpa using h)
theorem WiAt.at {H : Hp} {vs : List V} {ps : List (Nat × List Int)} (h : WiAt H vs ps) {i : Nat} {x : V} (hx : vs[i]? = some x) : ∃ p t sh, ps[i]? = some p ∧ x = .ref t ∧ H t = some (.tup [.int (p.1 : Int), .ref sh]) ∧ H sh = some (.tup (p.2.map V.int)) := by
  have hl := h.len
  have hi := (List.getElem?_eq_some_iff.mp hx).1
  obtain ⟨t, sh, h1, h2, h3⟩ := h.get (List.getElem?_eq_getElem (show i < ps.length by omega))
  rw [hx] at h1
  exact ⟨_, t, sh, List.getElem?_eq_getElem (show i < ps.length by omega), Option.some.inj h1, h2, h3⟩
section
variable {K : PySem.W.Frag} {σ : L2.St} {H H' : Hp} {ta tb tc te tx tl : TE} {xs ys : List V} {D : Ends}
/-- l.append((n, shape)) -/
theorem s_appWi {l : Addr} {n : Int} (hl : H l = some (.lst xs)) (hx : Ev tx σ H (.ref l)) (ha : Ev ta σ H (.int n)) (hb : EvTu tb σ H ys) (hz : xs.length < 100000) (k : ∀ t sh H1, Ex H H1 → H1 t = some (.tup [.int n, .ref sh]) → H1 sh = some (.tup ys) → D.nx σ (upd H1 l (.lst (xs ++ [.ref t])))) :
    tDrop (tBM K "list" rAppend tx (tCons (tTup (tCons ta (tCons tb tNil))) tNil)) D σ H :=
  hx H (Ex.refl _) _ fun H1 e1 => ⟨.inl ⟨rfl, _, sq_of (e1 _ _ hl)⟩, ha H1 e1 _ fun H2 e2 => hb H2 (e1.trans e2) _ fun sh H3 e3 h3 => ⟨show 2 ≤ sizeLine by decide, fun t nt => ⟨l, xs, .ref t, rfl, rfl, ((e1.trans (e2.trans e3)).trans (Ex.new nt)) _ _ hl, sz_lt hz, k t sh _ ((e1.trans (e2.trans e3)).trans (Ex.new nt)) upd_same (by rw [upd_ne (ne_of_none h3 nt)]; exact h3)⟩⟩⟩
end
/-! ### the dict of ways -/
/-- all but one place stays -/
def ExB (kd : Addr) (H H' : Hp) : Prop := ∀ a o, a ≠ kd → H a = some o → H' a = some o
theorem ExB.refl (kd : Addr) (H : Hp) : ExB kd H H := fun _ _ _ h => h
theorem ExB.trans {kd : Addr} {H H1 H2 : Hp} (a : ExB kd H H1) (b : ExB kd H1 H2) : ExB kd H H2 := fun x o n h => b x o n (a x o n h)
theorem ExB.of {kd : Addr} {H H' : Hp} (e : Ex H H') : ExB kd H H' := fun a o _ h => e a o h
theorem ExB.put {kd : Addr} {H H' : Hp} {o : HO} (e : ExB kd H H') : ExB kd H (upd H' kd o) := fun a u n h => by rw [upd_ne n]; exact e a u n h
theorem ExB.ex {kd : Addr} {H H' : Hp} (e : ExB kd H H') (n : H kd = none) : Ex H H' := fun a o h => e a o (ne_of_none h n) h
theorem ExB.del {kd : Addr} {H H' : Hp} (e : ExB kd H H') : Ex (del H kd) H' := fun a o h => by
  unfold Oa.del at h
  by_cases q : a = kd
  · rw [if_pos q] at h; cases h
  · rw [if_neg q] at h; exact e a o q h
def Ent (H : Hp) (N : Nat) (x : NEnt) : Prop := ∃ (shape : List Int) (left : Nat) (tk : Tok), x.1 = nk shape (left : Int) ∧ x.2.2 = .int (waysF shape left) tk ∧ KeyAt H x.2.1 shape (left : Int) ∧ IsShape shape ∧ shape.sum + (left : Int) = (N : Int)
def Memo (P : Program) (w : World) (N : Nat) (H : Hp) (a : Addr) : Prop := ∃ xs, H a = some (NDict P w a xs) ∧ (∀ x ∈ xs, Ent H N x) ∧ (xs.map (·.1)).Nodup
theorem KeyAt.mono {H H' : Hp} {t : Addr} {s : List Int} {l : Int} (e : ∀ a xs, H a = some (.tup xs) → H' a = some (.tup xs)) (k : KeyAt H t s l) : KeyAt H' t s l := by
  obtain ⟨sh, h1, h2⟩ := k
  exact ⟨sh, e _ _ h1, e _ _ h2⟩
theorem Ent.mono {H H' : Hp} {N : Nat} {x : NEnt} (e : ∀ a xs, H a = some (.tup xs) → H' a = some (.tup xs)) (h : Ent H N x) : Ent H' N x := by
  obtain ⟨s, l, tk, h1, h2, h3, h4⟩ := h
  exact ⟨s, l, tk, h1, h2, h3.mono e, h4⟩
theorem Memo.mono {P : Program} {w : World} {N : Nat} {H H' : Hp} {a : Addr} (e : Ex H H') (m : Memo P w N H a) : Memo P w N H' a := by
  obtain ⟨xs, h1, h2, h3⟩ := m
  exact ⟨xs, e _ _ h1, fun x hx => (h2 x hx).mono fun b ys hb => e _ _ hb, h3⟩
theorem Memo.new {P : Program} {w : World} {N : Nat} {H : Hp} {a : Addr} : Memo P w N (upd H a (NDict P w a [])) a := ⟨[], upd_same, fun x hx => (by cases hx), List.nodup_nil⟩
theorem nk_num : ∀ {a b : List Int}, a.map NestedKey.num = b.map NestedKey.num → a = b
  | [], [], _ => rfl
  | [], _ :: _, h => by simp at h
  | _ :: _, [], h => by simp at h
  | x :: a, y :: b, h => by
    rw [List.map_cons, List.map_cons] at h
    obtain ⟨h1, h2⟩ := List.cons.inj h
    rw [NestedKey.num.inj h1, nk_num h2]
theorem nk_inj {s t : List Int} {l m : Int} (h : nk s l = nk t m) : s = t ∧ l = m := by
  unfold nk at h
  obtain ⟨h1, h2⟩ := List.cons.inj (NestedKey.tup.inj h)
  obtain ⟨h3, _⟩ := List.cons.inj h2
  exact ⟨nk_num (NestedKey.tup.inj h1), NestedKey.num.inj h3⟩
theorem atKey_mem {xs : List NEnt} {k : NestedKey} {p : Addr × Value} (h : atKey xs k = some p) : (k, p) ∈ xs := by
  unfold atKey at h
  obtain ⟨x, hx, rfl⟩ := Option.map_eq_some_iff.mp h
  have h1 := List.mem_of_find?_eq_some hx
  have h2 := List.find?_some hx
  have h3 : x.1 = k := of_decide_eq_true h2
  rw [← h3]
  exact h1
theorem atKey_none {xs : List NEnt} {k : NestedKey} (h : atKey xs k = none) : k ∉ xs.map (·.1) := fun hm => by
  obtain ⟨x, hx, e⟩ := List.mem_map.mp hm
  unfold atKey at h
  have := List.find?_eq_none.mp (Option.map_eq_none_iff.mp h) x hx
  exact this (decide_eq_true e)
theorem Memo.hit {H : Hp} {N : Nat} {xs : List NEnt} (h : ∀ x ∈ xs, Ent H N x) {s : List Int} {l : Nat} {b : Addr} {u : Value} (k : atKey xs (nk s (l : Int)) = some (b, u)) : ∃ tk, u = .int (waysF s l) tk := by
  obtain ⟨s', l', tk, h1, h2, _⟩ := h _ (atKey_mem k)
  obtain ⟨e1, e2⟩ := nk_inj h1
  have e3 : l = l' := by omega
  subst e1 e3
  exact ⟨tk, h2⟩
theorem Ent.keyed {H : Hp} {N : Nat} {xs : List NEnt} (h : ∀ x ∈ xs, Ent H N x) : Keyed2 H xs := fun x hx => by
  obtain ⟨s, l, tk, h1, h2, h3, _⟩ := h x hx
  exact ⟨s, l, h1, h3⟩
def encK : NestedKey → Nat
  | .tup (.tup ks :: _) => encN ks
  | _ => 0
where encN : List NestedKey → Nat
  | [] => 0
  | .num a :: r => 2 ^ (a.toNat - 1) * (2 * encN r + 1)
  | _ :: r => encN r
theorem encK_nk (s : List Int) (l : Int) : encK (nk s l) = encS s := by
  show encK.encN (s.map .num) = encS s
  induction s with
  | nil => rfl
  | cons a r ih =>
    show 2 ^ (a.toNat - 1) * (2 * encK.encN (r.map .num) + 1) = 2 ^ (a.toNat - 1) * (2 * encS r + 1)
    rw [ih]
theorem Memo.few {H : Hp} {N : Nat} (hN : N ≤ 20) {xs : List NEnt} (h : ∀ x ∈ xs, Ent H N x) (hn : (xs.map (·.1)).Nodup) : xs.length < sizeLine := by
  have key : ∀ x ∈ xs.map (·.1), ∃ s l, x = nk s l ∧ IsShape s ∧ s.sum + l = (N : Int) ∧ 0 ≤ l := fun x hx => by
    obtain ⟨y, hy, rfl⟩ := List.mem_map.mp hx
    obtain ⟨s, l, tk, h1, _, _, h4, h5⟩ := h y hy
    exact ⟨s, l, h1, h4, h5, by omega⟩
  have h1 : ((xs.map (·.1)).map encK).Nodup := by
    rw [List.Nodup, List.pairwise_map]
    refine hn.imp_of_mem fun {x y} hx hy hne e => hne ?_
    obtain ⟨s, l, rfl, a1, a2, a3⟩ := key x hx
    obtain ⟨t, m, rfl, b1, b2, b3⟩ := key y hy
    rw [encK_nk, encK_nk] at e
    have := encS_inj a1.2 b1.2 e
    subst this
    have : l = m := by omega
    rw [this]
  have h2 := nodup_lt (2 ^ 20) _ h1 fun n hm => by
    obtain ⟨x, hx, rfl⟩ := List.mem_map.mp hm
    obtain ⟨s, l, rfl, a1, a2, a3⟩ := key x hx
    rw [encK_nk]
    refine Nat.lt_of_lt_of_le (encS_lt a1.2) (Nat.pow_le_pow_right (by decide) ?_)
    omega
  rw [List.length_map, List.length_map] at h2
  have : sizeLine = 16777216 := by decide
  omega
/-- an entry more -/
theorem Memo.put {P : Program} {w : World} {N : Nat} {H : Hp} {a t : Addr} {xs : List NEnt} {s : List Int} {l : Nat} {u : Value} {tk : Tok} (ha : H a = some (NDict P w a xs)) (h : ∀ x ∈ xs, Ent H N x) (hn : (xs.map (·.1)).Nodup) (k : atKey xs (nk s (l : Int)) = none) (hk : KeyAt H t s (l : Int)) (hs : IsShape s) (hN : s.sum + (l : Int) = (N : Int))
    (hu : u = .int (waysF s l) tk) : Memo P w N (upd H a (NDict P w a (storedH xs (nk s (l : Int)) t u))) a := by
  have keep : ∀ b ys, H b = some (.tup ys) → (upd H a (NDict P w a (storedH xs (nk s (l : Int)) t u))) b = some (.tup ys) := fun b ys hb => by
    rw [upd_ne (ne_of hb ha (fun z => nomatch z))]; exact hb
  refine ⟨_, upd_same, fun x hx => ?_, ?_⟩
  · rw [storedH_new k] at hx
    rcases List.mem_append.mp hx with q | q
    · exact (h x q).mono keep
    · rw [List.mem_singleton.mp q]
      exact ⟨s, l, tk, rfl, hu, hk.mono keep, hs, hN⟩
  · rw [storedH_new k, List.map_append]
    rw [List.nodup_append]
    refine ⟨hn, by simp, fun x hx y hy e => ?_⟩
    simp only [List.map_cons, List.map_nil, List.mem_singleton] at hy
    rw [hy] at e
    exact atKey_none k (e ▸ hx)
theorem Memo.isD {P : Program} {w : World} {N : Nat} {H : Hp} {kd : Addr} (m : Memo P w N H kd) : ∃ xs, H kd = some (NDict P w kd xs) := by
  obtain ⟨xs, h, _⟩ := m
  exact ⟨xs, h⟩
theorem Memo.neT {P : Program} {w : World} {N : Nat} {H : Hp} {kd a : Addr} {xs : List V} (m : Memo P w N H kd) (h : H a = some (.tup xs)) : a ≠ kd := by
  obtain ⟨es, he⟩ := m.isD
  exact ne_of h he (fun z => nomatch z)
theorem Memo.neL {P : Program} {w : World} {N : Nat} {H : Hp} {kd a : Addr} {xs : List V} (m : Memo P w N H kd) (h : H a = some (.lst xs)) : a ≠ kd := by
  obtain ⟨es, he⟩ := m.isD
  exact ne_of h he (fun z => nomatch z)
/-! ### what evaluates while the dict of ways grows -/
section
variable {P : Program} {w : World} {N : Nat} {kd : Addr} {K : PySem.W.Frag} {σ : L2.St} {H H' : Hp} {ta tb tc te tx tl : TE} {t u : TT} {x y z v : V} {r : R2} {D : Ends} {tu tw tz : TS} {g : TG}
def EvM (P : Program) (w : World) (N : Nat) (kd : Addr) (te : TE) (σ : L2.St) (H : Hp) (v : V) : Prop := ∀ H1, ExB kd H H1 → Memo P w N H1 kd → ∀ Q : VK, (∀ H2, ExB kd H1 H2 → Memo P w N H2 kd → Q v H2) → te σ H1 Q
def EvTM (P : Program) (w : World) (N : Nat) (kd : Addr) (tt : TT) (σ : L2.St) (H : Hp) (b : Bool) : Prop := ∀ H1, ExB kd H H1 → Memo P w N H1 kd → ∀ Q : Bool → Hp → Prop, (∀ H2, ExB kd H1 H2 → Memo P w N H2 kd → Q b H2) → tt σ H1 Q
theorem evm_of (h : Ev te σ (del H kd) v) : EvM P w N kd te σ H v := fun H1 e m Q q => h H1 e.del Q fun H2 e2 => q H2 (ExB.of e2) (m.mono e2)
theorem etm_of {b : Bool} (h : EvT t σ (del H kd) b) : EvTM P w N kd t σ H b := fun H1 e m Q q => h H1 e.del Q fun H2 e2 => q H2 (ExB.of e2) (m.mono e2)
theorem evm_op (ha : EvM P w N kd ta σ H x) (hb : EvM P w N kd tb σ H y) (hr : RV r x y (del H kd) z) : EvM P w N kd (tOp r ta tb) σ H z := fun H1 e m Q q =>
  ha H1 e m _ fun H2 e2 m2 => hb H2 (e.trans e2) m2 _ fun H3 e3 m3 => hr H3 (e.trans (e2.trans e3)).del Q fun H4 e4 => q H4 (e2.trans (e3.trans (ExB.of e4))) (m3.mono e4)
theorem etm_test {b : Bool} (h : EvM P w N kd te σ H (.bl b)) : EvTM P w N kd (tTest te) σ H b := fun H1 e m Q q => h H1 e m _ fun H2 e2 m2 => ⟨b, rfl, q H2 e2 m2⟩
theorem etm_not {b : Bool} (h : EvTM P w N kd t σ H b) : EvTM P w N kd (tNot t) σ H (!b) := fun H1 e m Q q => h H1 e m _ fun H2 e2 m2 => q H2 e2 m2
theorem etm_is {a b : Bool} (h : EvTM P w N kd t σ H a) (e : a = b) : EvTM P w N kd t σ H b := e ▸ h
theorem etm_or {a b : Bool} (h1 : EvTM P w N kd t σ H a) (h2 : a = false → EvTM P w N kd u σ H b) : EvTM P w N kd (tOr t u) σ H (a || b) := fun H1 e m Q q => h1 H1 e m _ fun H2 e2 m2 => by
  cases a with
  | true =>
    show Q true H2
    exact q H2 e2 m2
  | false =>
    show u σ H2 Q
    exact h2 rfl H2 (e.trans e2) m2 Q fun H3 e3 m3 => q H3 (e2.trans e3) m3
theorem evm_chain {f g : Int → Int → Bool} {i j k : Int} (ha : Ev ta σ (del H kd) (.int i)) (hb : Ev tb σ (del H kd) (.int j)) (hc : EvM P w N kd tc σ H (.int k)) : EvM P w N kd (tChain (rI0 fun i j => .bl (f i j)) (rI0 fun i j => .bl (g i j)) ta tb tc) σ H (.bl (f i j && g j k)) := fun H1 e m Q q =>
  ha H1 e.del _ fun H2 e2 => hb H2 (e.trans (ExB.of e2)).del _ fun H3 e3 => ⟨i, j, rfl, rfl, f i j, rfl, by
    have m3 := m.mono (e2.trans e3)
    cases h : f i j with
    | true => exact iteT (hc H3 (e.trans (ExB.of (e2.trans e3))) m3 _ fun H4 e4 m4 => ⟨j, k, rfl, rfl, by rw [h] at q; exact q H4 ((ExB.of (e2.trans e3)).trans e4) m4⟩)
    | false => exact iteF (by rw [h] at q; exact q H3 (ExB.of (e2.trans e3)) m3)⟩
theorem qm_when {b : Bool} (h : EvTM P w N kd t σ H b) (m : Memo P w N H kd) (h1 : b = true → ∀ H1, ExB kd H H1 → Memo P w N H1 kd → tu { D with nx := tz D } σ H1) (h2 : b = false → ∀ H1, ExB kd H H1 → Memo P w N H1 kd → tz D σ H1) : tSeq (tIfS t tu tNext) tz D σ H := h H (ExB.refl _ _) m _ fun H1 e m1 => by
  cases b with
  | true => exact iteT (h1 rfl H1 e m1)
  | false => exact iteF (h2 rfl H1 e m1)
theorem sm_when {b : Bool} (h : EvTM P w N kd t σ H b) (m : Memo P w N H kd) (h1 : b = true → ∀ H1, ExB kd H H1 → Memo P w N H1 kd → tu D σ H1) (h2 : b = false → ∀ H1, ExB kd H H1 → Memo P w N H1 kd → D.nx σ H1) : tIfS t tu tNext D σ H := h H (ExB.refl _ _) m _ fun H1 e m1 => by
  cases b with
  | true => exact iteT (h1 rfl H1 e m1)
  | false => exact iteF (h2 rfl H1 e m1)
theorem sm_aug {i : Nat} {f : Int → Int → Int} {a b : Int} (hx : σ[i]? = some (some (.int a))) (h : EvM P w N kd te σ H (.int b)) (m : Memo P w N H kd) (k : ∀ H1, ExB kd H H1 → Memo P w N H1 kd → D.nx (σ.set i (some (.int (f a b)))) H1) : tAug i te (ipI f) D σ H :=
  ⟨.int a, hx, h H (ExB.refl _ _) m _ fun H1 e m1 => ⟨a, b, rfl, rfl, k H1 e m1⟩⟩
theorem qm_aug {i : Nat} {f : Int → Int → Int} {a b : Int} (hx : σ[i]? = some (some (.int a))) (h : EvM P w N kd te σ H (.int b)) (m : Memo P w N H kd) (k : ∀ H1, ExB kd H H1 → Memo P w N H1 kd → tz D (σ.set i (some (.int (f a b)))) H1) : tSeq (tAug i te (ipI f)) tz D σ H := sm_aug (D := { D with nx := tz D }) hx h m k
theorem qm_while (W : Nat → L2.St → Hp → Prop) (m0 : Nat) (h0 : W m0 σ H)
    (hs : ∀ m σ' H', W m σ' H' → Memo P w N H' kd ∧ ∃ b, EvTM P w N kd t σ' H' b ∧ (b = true → ∀ H1, ExB kd H' H1 → Memo P w N H1 kd → ∃ Nx : L2.St → Hp → Prop, (∀ σ2 H2, Nx σ2 H2 → ∃ m', m' < m ∧ W m' σ2 H2) ∧ tu { D with nx := Nx, ct := Nx, bk := tz D } σ' H1) ∧ (b = false → ∀ H1, ExB kd H' H1 → Memo P w N H1 kd → tz D σ' H1)) : tSeq (tWhile t tu) tz D σ H :=
  ⟨W, ⟨m0, h0⟩, fun m σ' H' hw => by
    obtain ⟨hm, b, hb, h1, h2⟩ := hs m σ' H' hw
    refine hb H' (ExB.refl _ _) hm _ fun H1 e m1 => ?_
    cases b with
    | true => exact h1 rfl H1 e m1
    | false => exact h2 rfl H1 e m1⟩
end
theorem rd_asgOp {σ : L2.St} {H : Hp} {ta tb : TE} {r : R2} {g : TG} {D : Ends} (h : ta σ H fun x H1 => tb σ H1 fun y H2 => r x y H2 fun z H3 => g z σ H3 D.nx) : tAsg (tOp r ta tb) g D σ H := h
theorem rd_retCall {σ : L2.St} {H : Hp} {sp : Sp} {E : XK} {ta : TA} {D : Ends} (h : ta σ H fun vs H1 => sp (vs ++ []) H1 D.rt E) : tRet (tCall sp [] E ta) D σ H := h
end Oa
/-! how many rows have a shape, by how far each square sees -/
namespace Oa
def cntF (t : List Int) (p : Int) : Int := ((t.filter fun x => decide (p < x)).length : Int)
def rowP (a : Int) (t : List Int) : Nat → Int
  | 0 => 1
  | p + 1 => rowP a t p * (a - (p : Int) + cntF t (p : Int))
def hookF : List Int → Int
  | [] => 1
  | a :: t => rowP a t a.toNat * hookF t
def topF : Nat → Int
  | 0 => 1
  | n + 1 => topF n * ((n : Int) + 1)
def ofF (s : List Int) : Int := topF s.sum.toNat / hookF s
def turnedF (s : List Int) : List Int := (List.range (s.getD 0 0).toNat).map fun p : Nat => cntF s (p : Int)
/-! ### the same in naturals, for the kernel -/
noncomputable def cntN (t : List Nat) (p : Nat) : Nat := List.rec (motive := fun _ => Nat) 0 (fun b _ ih => bif Nat.blt p b then ih + 1 else ih) t
noncomputable def rowN (a : Nat) (t : List Nat) (n : Nat) : Nat := Nat.rec (motive := fun _ => Nat) 1 (fun p ih => ih * (a - p + cntN t p)) n
noncomputable def hookN (s : List Nat) : Nat := List.rec (motive := fun _ => Nat) 1 (fun a t ih => rowN a t a * ih) s
noncomputable def topN (n : Nat) : Nat := Nat.rec (motive := fun _ => Nat) 1 (fun k ih => ih * (k + 1)) n
noncomputable def sumN (s : List Nat) : Nat := List.rec (motive := fun _ => Nat) 0 (fun a _ ih => a + ih) s
noncomputable def ofN (s : List Nat) : Nat := topN (sumN s) / hookN s
def hd (s : List Nat) : Nat := match s with | [] => 0 | a :: _ => a
noncomputable def turnN (s : List Nat) : List Nat := (List.range (hd s)).map (cntN s)
noncomputable def dnN (s : List Nat) : List (List Nat) := List.rec (motive := fun _ => List (List Nat)) [] (fun a t ih => (bif Nat.blt (hd t) a then [bif Nat.beq a 1 then t else (a - 1) :: t] else []) ++ ih.map fun x => a :: x) s
noncomputable def sumOfN (l : List (List Nat)) : Nat := List.rec (motive := fun _ => Nat) 0 (fun a _ ih => ofN a + ih) l
noncomputable def valN (s : List Nat) : Bool := List.rec (motive := fun _ => Bool) true (fun a t ih => Nat.ble 1 a && Nat.ble (hd t) a && ih) s
noncomputable def chkN (s : List Nat) : Bool := match s with
  | [] => true
  | _ :: _ => Nat.beq (ofN (turnN s)) (ofN s) && (Nat.beq (sumN (turnN s)) (sumN s) && (valN (turnN s) && Nat.beq (ofN s) (sumOfN (dnN s))))
/-- all shapes of at most n, no more than m in the first -/
def partsN : Nat → Nat → Nat → List (List Nat)
  | 0, _, _ => [[]]
  | f + 1, n, m => [] :: (List.range (min n m)).flatMap fun a => (partsN f (n - (a + 1)) (a + 1)).map fun t => (a + 1) :: t
theorem partsN_mem : ∀ (f n m : Nat) (s : List Nat), n ≤ f → (∀ x ∈ s, 1 ≤ x) → s.Pairwise (fun a b => b ≤ a) → s.sum ≤ n → (∀ x ∈ s, x ≤ m) → s ∈ partsN f n m
  | 0, n, m, s, hf, h1, h2, h3, h4 => by
    cases s with
    | nil => exact List.mem_singleton.mpr rfl
    | cons a t =>
      have := h1 a (List.mem_cons_self ..)
      rw [List.sum_cons] at h3
      omega
  | f + 1, n, m, s, hf, h1, h2, h3, h4 => by
    cases s with
    | nil => exact List.mem_cons_self ..
    | cons a t =>
      have ha := h1 a (List.mem_cons_self ..)
      have hm := h4 a (List.mem_cons_self ..)
      rw [List.sum_cons] at h3
      obtain ⟨p1, p2⟩ := List.pairwise_cons.mp h2
      refine List.mem_cons_of_mem _ (List.mem_flatMap.mpr ⟨a - 1, List.mem_range.mpr (by omega), List.mem_map.mpr ⟨t, ?_, by rw [Nat.sub_add_cancel ha]⟩⟩)
      rw [Nat.sub_add_cancel ha]
      exact partsN_mem f _ _ t (by omega) (fun x hx => h1 x (List.mem_cons_of_mem _ hx)) p2 (by omega) p1
/-! ### the two agree -/
def upL (s : List Nat) : List Int := s.map fun n : Nat => (n : Int)
theorem upL_nil : upL [] = [] := rfl
theorem upL_cons (a : Nat) (s : List Nat) : upL (a :: s) = (a : Int) :: upL s := rfl
theorem cnt_up (p : Nat) : ∀ t : List Nat, cntF (upL t) (p : Int) = (cntN t p : Int)
  | [] => rfl
  | b :: t => by
    have ih := cnt_up p t
    have e1 : cntN (b :: t) p = bif Nat.blt p b then cntN t p + 1 else cntN t p := rfl
    unfold cntF at ih ⊢
    rw [upL_cons, List.filter_cons, e1]
    by_cases h : p < b
    · have h2 : Nat.blt p b = true := Nat.ble_eq.mpr h
      rw [if_pos (by simpa using h), h2, List.length_cons]
      show _ = ((cntN t p + 1 : Nat) : Int)
      omega
    · have h2 : Nat.blt p b = false := by
        cases hc : Nat.blt p b with
        | false => rfl
        | true => exact absurd (Nat.ble_eq.mp hc) h
      rw [if_neg (by simpa using h), h2]
      exact ih
theorem row_up (a : Nat) (t : List Nat) : ∀ n : Nat, n ≤ a → rowP (a : Int) (upL t) n = (rowN a t n : Int)
  | 0, _ => rfl
  | n + 1, h => by
    have e1 : rowN a t (n + 1) = rowN a t n * (a - n + cntN t n) := rfl
    unfold rowP
    rw [row_up a t n (by omega), cnt_up, e1, Int.natCast_mul, Int.natCast_add, Int.natCast_sub (by omega)]
theorem hook_up : ∀ s : List Nat, hookF (upL s) = (hookN s : Int)
  | [] => rfl
  | a :: t => by
    have e1 : hookN (a :: t) = rowN a t a * hookN t := rfl
    rw [upL_cons]
    unfold hookF
    rw [Int.toNat_natCast, row_up a t a (Nat.le_refl _), hook_up t, e1, Int.natCast_mul]
theorem top_up : ∀ n : Nat, topF n = (topN n : Int)
  | 0 => rfl
  | n + 1 => by
    have e1 : topN (n + 1) = topN n * (n + 1) := rfl
    unfold topF
    rw [top_up n, e1, Int.natCast_mul]
    rfl
theorem sum_up : ∀ s : List Nat, (upL s).sum = (sumN s : Int)
  | [] => rfl
  | a :: t => by
    have e1 : sumN (a :: t) = a + sumN t := rfl
    rw [upL_cons, List.sum_cons, sum_up t, e1, Int.natCast_add]
theorem of_up (s : List Nat) : ofF (upL s) = (ofN s : Int) := by
  unfold ofF ofN
  rw [sum_up, Int.toNat_natCast, top_up, hook_up, Int.natCast_ediv]
theorem hd_up (s : List Nat) : (upL s).getD 0 0 = (hd s : Int) := by
  cases s with
  | nil => rfl
  | cons a t => rfl
theorem turn_up (s : List Nat) : turnedF (upL s) = upL (turnN s) := by
  unfold turnedF turnN
  rw [hd_up, Int.toNat_natCast]
  unfold upL
  rw [List.map_map]
  apply List.map_congr_left
  intro p _
  exact cnt_up p s
theorem blt_true {a b : Nat} : Nat.blt a b = true ↔ a < b := Iff.of_eq (Nat.ble_eq (x := a + 1) (y := b))
theorem blt_false {a b : Nat} (h : ¬ a < b) : Nat.blt a b = false := by
  cases hc : Nat.blt a b with
  | false => rfl
  | true => exact absurd (blt_true.mp hc) h
theorem beq_false {a b : Nat} (h : a ≠ b) : Nat.beq a b = false := by
  cases hc : Nat.beq a b with
  | false => rfl
  | true => exact absurd (Nat.eq_of_beq_eq_true hc) h
theorem dn_up : ∀ s : List Nat, dnF (upL s) = (dnN s).map upL
  | [] => rfl
  | a :: t => by
    have e1 : dnN (a :: t) = (bif Nat.blt (hd t) a then [bif Nat.beq a 1 then t else (a - 1) :: t] else []) ++ (dnN t).map fun x => a :: x := rfl
    rw [upL_cons]
    unfold dnF
    rw [e1, List.map_append, dn_up t, hd_up, List.map_map, List.map_map]
    congr 1
    by_cases h : hd t < a
    · rw [if_pos (by omega), blt_true.mpr h]
      show _ = [upL (bif Nat.beq a 1 then t else (a - 1) :: t)]
      unfold cons0
      by_cases h1 : a = 1
      · subst h1
        rw [if_pos (by decide)]
        rfl
      · rw [if_neg (by omega), show Nat.beq a 1 = false from beq_false h1]
        show _ = [((a - 1 : Nat) : Int) :: upL t]
        rw [Int.natCast_sub (by omega)]
        rfl
    · rw [if_neg (by omega), blt_false h]
      rfl
theorem sumOf_up : ∀ l : List (List Nat), sumOf ofF (l.map upL) = (sumOfN l : Int)
  | [] => rfl
  | a :: l => by
    have e1 : sumOfN (a :: l) = ofN a + sumOfN l := rfl
    rw [List.map_cons, sumOf_cons, sumOf_up l, of_up, e1, Int.natCast_add]
theorem val_up : ∀ s : List Nat, valN s = true → IsShape (upL s)
  | [], _ => isShape_nil
  | a :: t, h => by
    have e1 : valN (a :: t) = (Nat.ble 1 a && Nat.ble (hd t) a && valN t) := rfl
    rw [e1, Bool.and_eq_true, Bool.and_eq_true] at h
    have h1 := Nat.ble_eq.mp h.1.1
    have h2 := Nat.ble_eq.mp h.1.2
    rw [upL_cons]
    exact IsShape.cons (val_up t h.2) (by omega) (by rw [hd_up]; omega)
theorem up_of {s : List Int} (h : ∀ x ∈ s, 1 ≤ x) : upL (s.map Int.toNat) = s := by
  unfold upL
  rw [List.map_map]
  conv => rhs; rw [← List.map_id s]
  apply List.map_congr_left
  intro x hx
  have := h x hx
  show ((x.toNat : Nat) : Int) = x
  omega
theorem sumN_sum : ∀ s : List Nat, s.sum = sumN s
  | [] => rfl
  | a :: t => by rw [List.sum_cons, sumN_sum t]; rfl
theorem mem_le_sum : ∀ {s : List Nat} {x : Nat}, x ∈ s → x ≤ s.sum
  | a :: t, x, h => by
    rw [List.sum_cons]
    rcases List.mem_cons.mp h with q | q
    · omega
    · have := mem_le_sum q
      omega
theorem chk_all : (partsN 20 20 20).all chkN = true := by decide +kernel
theorem shape_chk {s : List Int} (h : IsShape s) (hs : s.sum ≤ 20) : ∃ m : List Nat, s = upL m ∧ chkN m = true := by
  have e := up_of h.2
  refine ⟨s.map Int.toNat, e.symm, ?_⟩
  have hsum : ((s.map Int.toNat).sum : Int) = s.sum := by rw [sumN_sum, ← sum_up, e]
  have hpos : ∀ x ∈ s.map Int.toNat, 1 ≤ x := fun x hx => by
    obtain ⟨y, hy, rfl⟩ := List.mem_map.mp hx
    have := h.2 y hy
    omega
  refine List.all_eq_true.mp chk_all _ (partsN_mem 20 20 20 _ (Nat.le_refl _) hpos ?_ (by omega) fun x hx => ?_)
  · refine List.Pairwise.map _ ?_ h.1
    intro a b hab
    omega
  · have := mem_le_sum hx
    omega
/-- turned, and with one less -/
theorem shape_turn {s : List Int} (h : IsShape s) (hs : s.sum ≤ 20) (h0 : s ≠ []) : ofF (turnedF s) = ofF s ∧ (turnedF s).sum = s.sum ∧ IsShape (turnedF s) ∧ ofF s = sumOf ofF (dnF s) := by
  obtain ⟨m, rfl, hc⟩ := shape_chk h hs
  cases m with
  | nil => exact absurd rfl h0
  | cons a t =>
    have e : chkN (a :: t) = (Nat.beq (ofN (turnN (a :: t))) (ofN (a :: t)) && (Nat.beq (sumN (turnN (a :: t))) (sumN (a :: t)) && (valN (turnN (a :: t)) && Nat.beq (ofN (a :: t)) (sumOfN (dnN (a :: t)))))) := rfl
    rw [e, Bool.and_eq_true, Bool.and_eq_true, Bool.and_eq_true] at hc
    obtain ⟨c1, c2, c3, c4⟩ := hc
    rw [turn_up, of_up, of_up, dn_up, sumOf_up, sum_up, sum_up, Nat.eq_of_beq_eq_true c1, Nat.eq_of_beq_eq_true c2, ← Nat.eq_of_beq_eq_true c4]
    exact ⟨rfl, rfl, val_up _ c3, rfl⟩
end Oa
/-! a dict from tuples of ints to ints, its keys sorted -/
namespace Oa
open PySem PySem.Spec PyProof.Rows L2 Evl
theorem perm_sum {l m : List Int} (h : l.Perm m) : l.sum = m.sum := by
  induction h with
  | nil => rfl
  | cons a _ ih => rw [List.sum_cons, List.sum_cons, ih]
  | swap a b l => simp only [List.sum_cons]; omega
  | trans _ _ h1 h2 => exact h1.trans h2
def tKey (s : List Int) : List Key := s.map Sum.inl
theorem tKey_kV (s : List Int) : (tKey s).map kV = s.map V.int := by
  unfold tKey
  rw [List.map_map]
  rfl
theorem tKey_inj {s t : List Int} (h : tKey s = tKey t) : s = t := by
  have := congrArg (List.map fun k : Key => match k with | .inl i => i | .inr _ => 0) h
  unfold tKey at this
  rw [List.map_map, List.map_map] at this
  have e : ((fun k : Key => match k with | .inl i => i | .inr _ => 0) ∘ Sum.inl) = (id : Int → Int) := rfl
  rw [e, List.map_id, List.map_id] at this
  exact this
abbrev Tal := List (List Int × Int)
def talD (m : Tal) : List (List Key × V) := m.map fun p => (tKey p.1, V.int p.2)
def getT (m : Tal) (s : List Int) : Option Int := (m.find? fun p => decide (p.1 = s)).map (·.2)
def putT (m : Tal) (s : List Int) (v : Int) : Tal := if (m.any fun p => decide (p.1 = s)) = true then m.map (fun p => if p.1 = s then (p.1, v) else p) else m ++ [(s, v)]
theorem talD_key (p : List Int × Int) (s : List Int) : decide ((tKey p.1, V.int p.2).1 = tKey s) = decide (p.1 = s) := by
  by_cases h : p.1 = s
  · rw [decide_eq_true h, decide_eq_true (by rw [h])]
  · rw [decide_eq_false h, decide_eq_false fun e => h (tKey_inj e)]
theorem val_tal (m : Tal) (s : List Int) : valV (talD m) (tKey s) = (getT m s).map V.int := by
  unfold valV getT talD
  rw [List.find?_map]
  have e : ((fun kv : List Key × V => decide (kv.1 = tKey s)) ∘ fun p : List Int × Int => (tKey p.1, V.int p.2)) = fun p => decide (p.1 = s) := by funext p; exact talD_key p s
  rw [e, Option.map_map, Option.map_map]
  rfl
theorem put_tal (m : Tal) (s : List Int) (v : Int) : putK (talD m) (tKey s) (.int v) = talD (putT m s v) := by
  unfold putK putT
  have e1 : ((talD m).any fun kv => decide (kv.1 = tKey s)) = m.any fun p => decide (p.1 = s) := by
    unfold talD
    rw [List.any_map]
    congr 1
    funext p
    exact talD_key p s
  rw [e1]
  by_cases h : (m.any fun p => decide (p.1 = s)) = true
  · rw [if_pos h, if_pos h]
    unfold talD
    rw [List.map_map, List.map_map]
    apply List.map_congr_left
    intro p _
    show (if tKey p.1 = tKey s then (tKey p.1, V.int v) else (tKey p.1, V.int p.2)) = (tKey (if p.1 = s then (p.1, v) else p).1, V.int (if p.1 = s then (p.1, v) else p).2)
    by_cases q : p.1 = s
    · rw [if_pos q, if_pos (by rw [q])]
    · rw [if_neg q, if_neg fun e => q (tKey_inj e)]
  · rw [if_neg h, if_neg h]
    unfold talD
    rw [List.map_append]
    rfl
/-- the tuples with their ints -/
abbrev TupsAt (H : Hp) (bs : List (Addr × List Int)) : Prop := ∀ b ∈ bs, H b.1 = some (.tup (b.2.map V.int))
theorem keys_tups {H : Hp} : ∀ {m : Tal} {as : List Addr}, IsKeys H (talD m) as → ∃ bs : List (Addr × List Int), bs.map (·.1) = as ∧ bs.map (·.2) = m.map (·.1) ∧ TupsAt H bs
  | [], _, .nil => ⟨[], rfl, rfl, fun b hb => nomatch hb⟩
  | p :: m, _, .cons (b := a) h t => by
    obtain ⟨bs, h1, h2, h3⟩ := keys_tups (m := m) t
    refine ⟨(a, p.1) :: bs, by rw [List.map_cons, h1], by rw [List.map_cons, h2]; rfl, fun b hb => ?_⟩
    rcases List.mem_cons.mp hb with q | q
    · subst q
      have h' : H a = some (.tup ((tKey p.1).map kV)) := h
      rw [tKey_kV] at h'
      exact h'
    · exact h3 b q
theorem each_refs : ∀ bs : List (Addr × List Int), PySem.W.EachIs (fun (v : Value) (b : Addr × List Int) => v = .ref b.1) (bs.map fun b => Value.ref b.1) bs
  | [] => .nil
  | b :: r => .cons rfl (each_refs r)
theorem each_refs_inv : ∀ {vs : List Value} {bs : List (Addr × List Int)}, PySem.W.EachIs (fun (v : Value) (b : Addr × List Int) => v = .ref b.1) vs bs → vs = bs.map fun b => Value.ref b.1
  | [], [], _ => rfl
  | v :: vs, b :: bs, .cons h t => by rw [List.map_cons, h, each_refs_inv t]
theorem each_all {R : Value → Addr × List Int → Prop} : ∀ {bs : List (Addr × List Int)}, (∀ b ∈ bs, R (.ref b.1) b) → PySem.W.EachIs R (bs.map fun b => Value.ref b.1) bs
  | [], _ => .nil
  | b :: r, h => .cons (h b (List.mem_cons_self ..)) (each_all fun c hc => h c (List.mem_cons_of_mem _ hc))
def rSortT : List V → Hp → VK → Prop := fun xs H Q => ∃ (a : Addr) (m : Tal), xs = [.ref a] ∧ H a = some (.dT (talD m)) ∧ m.length ≤ 1000 ∧ (m.length ≤ 1 ∨ ∀ p ∈ m, p.1 ≠ []) ∧
  ∀ p bs, H p = none → (bs.map (·.2)).Perm (m.map (·.1)) → TupsAt H bs → Q (.ref p) (upd H p (.lst (bs.map fun b => V.ref b.1)))
theorem call_sortT {X : Cx} (hcalm : X.calm = true) (hu : X.A.units + 64 < cLine) : CallR X (.builtin "sorted") rSortT := by
  intro pins s σ H xs us Q I r h
  obtain ⟨d, m, rfl, hd, hm, hne, q⟩ := h
  obtain ⟨u, rfl, rx⟩ := vals1 r
  cases rx
  obtain ⟨z, hs, ks, pr, o, es, ep, ho, hx, hdt, he, hn⟩ := (show ObjOk X.prog X.w H s.heap d (.dT (talD m)) from I.hok d _ hd)
  have l1 : es.size = ks.length := size_of_entries he
  have l2 : (talD m).length = ks.length := Paired.length pr
  have l3 : (talD m).length = m.length := List.length_map _
  have zl : sizeLine = 16777216 := by decide
  obtain ⟨bs, b1, b2, b3⟩ := keys_tups (isKeys_of pr)
  have bl : bs.length = m.length := by have := congrArg List.length b2; rw [List.length_map, List.length_map] at this; exact this
  refine Calls.call_function_entry PyProof.Rows.kind_sorted PyProof.Rows.plain_sorted PyProof.Rows.entry_sorted (PyProof.Rows.args_sorted1 _) ?_
  unfold Builtin.«sorted»
  refine wpAny_bind (m := checkCount "sorted" 1 1 _) (wpAny_pure ?_)
  refine wpAny_bind (PySem.W.kdu_collect (A := X.A.in1) (kdl_raw hs hx hdt) (I.ok.hd hcalm) ho (by omega) fun h' tk acc kp it => ?_)
  have ea : acc.toList = bs.map fun b => Value.ref b.1 := by
    have hl : acc.toList.length = ks.length := by rw [Array.length_toList, it.1]; exact l1
    have ec : (bs.map fun b => Value.ref b.1) = ks.map fun x => Value.ref x.2.1 := by
      have := congrArg (List.map Value.ref) b1
      rw [List.map_map, List.map_map] at this
      exact this
    rw [ec]
    apply List.ext_getElem?
    intro j
    rw [List.getElem?_map]
    cases hj : acc.toList[j]? with
    | none => rw [List.getElem?_eq_none (by have := List.getElem?_eq_none_iff.mp hj; omega)]; rfl
    | some v =>
      obtain ⟨en, hen, hv⟩ := it.2 j v (by rw [← Array.getElem?_toList]; exact hj)
      have qe := entry_at he j
      rw [hen] at qe
      cases hb : ks[j]? with
      | none => rw [hb] at qe; exact nomatch (show some en = none from qe)
      | some b =>
        rw [hb] at qe
        have e2 : en = entryOfKey (tupleKind (mixKind X.prog X.w)) b := Option.some.inj qe
        rw [hv, e2]
        rfl
  have I1 : Inv X pins σ H { s with heap := h', toks := tk } := I.kept kp
  rw [ea]
  have hll : (bs.map fun b => Value.ref b.1).length ≤ 1000 := by rw [List.length_map]; omega
  refine wpAny_bind (wpAny_newList ?_ (by omega))
  have hoL : (h'.push (seqObj "list" (bs.map fun b => Value.ref b.1).toArray 0)).get? h'.objs.size = some (seqObj "list" (bs.map fun b => Value.ref b.1).toArray 0) := Heap.get?_push_size _ rfl
  show wpAny _ _ _ _ _ { s with heap := h'.push (seqObj "list" (bs.map fun b => Value.ref b.1).toArray 0), toks := tk }
  have fin : ∀ cs : List (Addr × List Int), cs.Perm bs → wpAny (model X.prog X.w) X.A.in1 (pure (Fin.done (.ret (.ref h'.objs.size)))) (fun f s' => ∃ v, f = .done (.ret v) ∧ ∃ x H', Inv X pins σ H' s' ∧ RelV x v ∧ Q x H') X.xe { s with heap := sortedHeap (h'.push (seqObj "list" (bs.map fun b => Value.ref b.1).toArray 0)) h'.objs.size (bs.map fun b => Value.ref b.1) (cs.map fun b => Value.ref b.1).toArray, toks := tk } := by
    intro cs pm
    obtain ⟨e', he'⟩ := PyProof.Rows.sortedHeap_at (vs := bs.map fun b => Value.ref b.1) (out := (cs.map fun b => Value.ref b.1).toArray) hoL
    have rv : Vals (cs.map fun b => V.ref b.1) (cs.map fun b => Value.ref b.1) := by
      have := vals_refs (cs.map (·.1))
      rw [List.map_map, List.map_map] at this
      exact this
    refine wpAny_pure ⟨_, rfl, .ref h'.objs.size, upd H h'.objs.size (.lst (cs.map fun b => V.ref b.1)), I1.laid (t' := tk) (fun b u e => ?_) (Nat.le_refl _)
      (show ObjOk X.prog X.w _ _ _ (.lst (cs.map fun b => V.ref b.1)) from ⟨?_, _, e', rv, he'⟩), rfl, q _ cs (I1.hok.fresh (Nat.le_refl _)) ((pm.map _).trans (by rw [b2])) fun b hb => b3 b (pm.mem_iff.mp hb)⟩
    · have hb : b < h'.objs.size := Heap.lt_size e
      rw [PyProof.Rows.sortedHeap_old (Nat.ne_of_lt hb) (by rw [size_push']; exact Nat.lt_succ_of_lt hb)]
      exact Heap.get?_push_of_some _ e
    · rw [List.length_map, pm.length_eq]; omega
  by_cases h1 : m.length ≤ 1
  · refine wpAny_bind (wpAny_holding (wpAny_call_entry PyProof.Rows.slot_list_sort ⟨_, hoL, rfl⟩ PyProof.Rows.entry_list_sort
      (Srt.list_sort_any (s := { s with heap := h'.push (seqObj "list" (bs.map fun b => Value.ref b.1).toArray 0), toks := tk }) hoL (by omega) (fun h2 => absurd h2 (by rw [List.length_map]; omega)) fun out pm => ⟨_, rfl, ?_⟩) (PyProof.Rows.args_list_sort _)))
    have eo : out = bs.map fun b => Value.ref b.1 := by
      have hol : out.length ≤ 1 := by rw [pm.length_eq, List.length_map]; omega
      match out, hol, pm with
      | [], _, pm => exact (List.nil_perm.mp pm).symm
      | [v], _, pm => exact List.singleton_perm.mp pm
    rw [eo]
    exact fin bs (List.Perm.refl _)
  · have hne' : ∀ p ∈ m, p.1 ≠ [] := hne.resolve_left h1
    have hbn : ∀ b ∈ bs, b.2 ≠ [] := fun b hb => by
      have : b.2 ∈ bs.map (·.2) := List.mem_map.mpr ⟨b, hb, rfl⟩
      rw [b2] at this
      obtain ⟨p, hp, e⟩ := List.mem_map.mp this
      rw [← e]
      exact hne' p hp
    refine wpAny_bind (wpAny_holding (PySem.W.list_sort_data (A := X.A.in1) (s := { s with heap := h'.push (seqObj "list" (bs.map fun b => Value.ref b.1).toArray 0), toks := tk }) (R := fun (v : Value) (b : Addr × List Int) => v = .ref b.1) (enc := fun b : Addr × List Int => .tuple (b.2.map .int)) (bs := bs) hoL (each_refs bs)
      (each_all fun b hb => ?_) (PySem.W.AllAlike.of fun b c => PySem.W.alike_ints b.2 c.2) (Or.inl fun d hd => ?_) (by omega) (fun b _ => ?_) fun out ol eo => ?_))
    · obtain ⟨as, ra⟩ := Dp.reads I1 (.tuple (b.2.map .int)) (V.ref b.1) (.ref b.1) (.tup (st_of (b3 b hb)) (dp_ints _)) rfl
      refine ⟨as, PyProof.Rows.Reads.keeps (fun c u e => Heap.get?_push_of_some _ e) ra, fun hm => ?_⟩
      obtain ⟨ob, eb⟩ := PyProof.On.reads_mem_get ra _ hm
      exact absurd (Heap.lt_size eb) (Nat.lt_irrefl _)
    · obtain ⟨b, hb, rfl⟩ := List.mem_map.mp hd
      have := hbn b hb
      cases hb2 : b.2 with
      | nil => exact absurd hb2 this
      | cons x t => exact ⟨.int x, t.map .int, rfl⟩
    · have : (PyData.tuple (b.2.map .int)).depth = 1 := by simp only [PyData.depth, depth_ints]
      show X.A.units + 1 + 1 + (PyData.tuple (b.2.map .int)).depth < cLine
      rw [this]; omega
    · rw [each_refs_inv eo]
      exact fin _ (List.mergeSort_perm _ _)
section
variable {K : PySem.W.Frag} {σ : L2.St} {H H' : Hp} {ta tb tc td te tx ty tv : TE} {t : TT} {D : Ends} {tz : TS} {v w : V}
/-- two names at once -/
theorem q_par {i j : Nat} (h1 : Ev ta σ H v) (h2 : Ev tb σ H w) (k : ∀ H1, Ex H H1 → tz D ((σ.set i (some v)).set j (some w)) H1) : tSeq (tPar i j (tCons ta (tCons tb tNil))) tz D σ H :=
  h1 H (Ex.refl _) _ fun H1 e1 => h2 H1 e1 _ fun H2 e2 => ⟨v, w, rfl, k H2 (e1.trans e2)⟩
theorem q_parVL {i j : Nat} {xs : List V} (h1 : Ev ta σ H v) (h2 : EvL tb σ H xs) (k : ∀ p H1, H p = none → Ex H H1 → H1 p = some (.lst xs) → tz D ((σ.set i (some v)).set j (some (.ref p))) H1) : tSeq (tPar i j (tCons ta (tCons tb tNil))) tz D σ H :=
  h1 H (Ex.refl _) _ fun H1 e1 => h2 H1 e1 _ fun p H2 n e2 a => ⟨v, .ref p, rfl, k p H2 (fresh_back e1 n) (e1.trans e2) a⟩
theorem q_tup2 {i j : Nat} (h1 : Ev ta σ H v) (h2 : Ev tb σ H w) (k : ∀ H1, Ex H H1 → tz D ((σ.set i (some v)).set j (some w)) H1) : tSeq (tAsg (tTup (tCons ta (tCons tb tNil))) (gTup K 2 (gCons (gName i) (gCons (gName j) gNil)))) tz D σ H :=
  rd_asgTup (rd_cons (h1 H (Ex.refl _) _ fun H1 e1 => rd_cons (h2 H1 e1 _ fun H2 e2 => rd_nil ⟨show 2 ≤ sizeLine by decide, fun pu npu => ⟨pu, _, rfl, st_of upd_same, rfl, _, _, rfl, _, _, rfl, rfl, k _ ((e1.trans e2).trans (Ex.new npu))⟩⟩)))
theorem q_tupD {i j : Nat} (h1 : Ev ta σ H v) (k : ∀ d H1, H d = none → Ex H H1 → H1 d = some (.dT (talD [])) → tz D ((σ.set i (some v)).set j (some (.ref d))) H1) : tSeq (tAsg (tTup (tCons ta (tCons tDNewT tNil))) (gTup K 2 (gCons (gName i) (gCons (gName j) gNil)))) tz D σ H :=
  rd_asgTup (rd_cons (h1 H (Ex.refl _) _ fun H1 e1 => rd_cons fun d nd => rd_nil ⟨show 2 ≤ sizeLine by decide, fun pu npu => ⟨pu, _, rfl, st_of upd_same, rfl, _, _, rfl, _, _, rfl, rfl, k d _ (fresh_back e1 nd) ((e1.trans (Ex.new nd)).trans (Ex.new npu)) ((Ex.new npu) _ _ upd_same)⟩⟩))
/-- data do not lean on a dict -/
theorem sql_del {d a : Addr} {kvs : List (List Key × V)} {xs : List V} (hd : H d = some (.dT kvs)) (h : SqL K H a xs) : SqL K (del H d) a xs := by
  rcases h with r | r
  · have ne : a ≠ d := fun e => by
      subst e
      rcases r with r | ⟨o, r⟩ <;> rw [hd] at r <;> cases r
    refine .inl ?_
    rcases r with r | ⟨o, r⟩
    · exact .inl (by rw [del_ne ne]; exact r)
    · exact .inr ⟨o, by rw [del_ne ne]; exact r⟩
  · exact .inr r
theorem sqt_del {d a : Addr} {kvs : List (List Key × V)} {xs : List V} (hd : H d = some (.dT kvs)) (h : SqT K H a xs) : SqT K (del H d) a xs := by
  rcases h with r | r
  · have ne : a ≠ d := fun e => by
      subst e
      rcases r with r | ⟨o, r⟩ <;> rw [hd] at r <;> cases r
    refine .inl ?_
    rcases r with r | ⟨o, r⟩
    · exact .inl (by rw [del_ne ne]; exact r)
    · exact .inr ⟨o, by rw [del_ne ne]; exact r⟩
  · exact .inr r
mutual
theorem dp_del {d : Addr} {kvs : List (List Key × V)} (hd : H d = some (.dT kvs)) : ∀ {v : V} {x : PyData}, Dp K H v x → Dp K (del H d) v x
  | _, _, .non => .non
  | _, _, .bl b => .bl b
  | _, _, .int i => .int i
  | _, _, .str x => .str x
  | _, _, .lst h a => .lst (sql_del hd h) (dpA_del hd a)
  | _, _, .tup h a => .tup (sqt_del hd h) (dpA_del hd a)
theorem dpA_del {d : Addr} {kvs : List (List Key × V)} (hd : H d = some (.dT kvs)) : ∀ {vs : List V} {xs : List PyData}, DpAll K H vs xs → DpAll K (del H d) vs xs
  | _, _, .nil => .nil
  | _, _, .cons h a => .cons (dp_del hd h) (dpA_del hd a)
end
/-- tuple(a list) -/
def rTupOf (K : PySem.W.Frag) : List V → Hp → VK → Prop := fun xs H Q => ∃ p ys, xs = [.ref p] ∧ ((SqL K H p ys ∧ ∀ l, H l = none → Q (.ref l) (upd H l (.tup ys))) ∨ (SqT K H p ys ∧ Q (.ref p) H))
theorem eu_tupOf {a : Addr} {xs : List V} (h : Ev ta σ H (.ref a)) (hs : SqL K H a xs) : EvU (tCB (rTupOf K) (tCons ta tNil)) σ H xs := fun H1 e Q q =>
  h H1 e _ fun H2 e2 => ⟨a, xs, rfl, .inl ⟨ex_l (e.trans e2) hs, fun l nl => q l _ (fresh_back e2 nl) (e2.trans (Ex.new nl)) upd_same⟩⟩
theorem el_listT {b : Addr} {xs : List V} (h : Ev ta σ H (.ref b)) (hs : H b = some (.tup xs)) : EvL (tCB (rListS K) (tCons ta tNil)) σ H xs := fun H1 e Q q =>
  h H1 e _ fun H2 e2 => ⟨b, xs, rfl, .inr (st_of ((e.trans e2) _ _ hs)), fun l nl => q l _ (fresh_back e2 nl) (e2.trans (Ex.new nl)) upd_same⟩
/-- d.get(tuple(..), 0), d[key], d[tuple(..)] = v -/
theorem ev_tget2 {d : Addr} {m : Tal} {s : List Int} {i : Int} (hd : Ev td σ H (.ref d)) (h : H d = some (.dT (talD m))) (hk : EvU ty σ H (s.map V.int)) (hx : Ev tx σ H (.int i)) : Ev (tDGet2 td ty tx) σ H (.int ((getT m s).getD i)) := fun H1 e Q q =>
  hd H1 e _ fun H2 e2 => ⟨d, rfl, .inr ⟨_, .inl ((e.trans e2) _ _ h)⟩, hk H2 (e.trans e2) _ fun b H3 nb e3 hb => hx H3 (e.trans (e2.trans e3)) _ fun H4 e4 => ⟨_, DGet.t (k := tKey s) ((e.trans (e2.trans (e3.trans e4))) _ _ h) (by rw [tKey_kV]; exact e4 _ _ hb), by
    rw [val_tal]
    have : ((getT m s).map V.int).getD (.int i) = .int ((getT m s).getD i) := by cases getT m s <;> rfl
    rw [this]
    exact q H4 (e2.trans (e3.trans e4))⟩⟩
theorem ev_tget {d b : Addr} {m : Tal} {s : List Int} {i : Int} (hd : Ev td σ H (.ref d)) (h : H d = some (.dT (talD m))) (hk : Ev ty σ H (.ref b)) (hb : H b = some (.tup (s.map V.int))) (hv : getT m s = some i) : Ev (tDGet td ty) σ H (.int i) := fun H1 e Q q =>
  hd H1 e _ fun H2 e2 => hk H2 (e.trans e2) _ fun H3 e3 => ⟨d, .int i, rfl, by
    have := DGet.t (k := tKey s) ((e.trans (e2.trans e3)) _ _ h) (by rw [tKey_kV]; exact (e.trans (e2.trans e3)) _ _ hb)
    rw [val_tal, hv] at this
    exact this, q H3 (e2.trans e3)⟩
theorem s_tput {d : Addr} {m : Tal} {s : List Int} {i : Int} (hd : Ev td σ H (.ref d)) (h : H d = some (.dT (talD m))) (hv : Ev tv σ H (.int i)) (hk : EvU ty σ H (s.map V.int)) (hz : m.length < 100000) (c : ∀ H1, Ex H H1 → D.nx σ (upd H1 d (.dT (talD (putT m s i))))) : sDPut td ty tv D σ H :=
  hv H (Ex.refl _) _ fun H1 e1 => hd H1 e1 _ fun H2 e2 => hk H2 (e1.trans e2) _ fun b H3 nb e3 hb => ⟨d, _, rfl, DPut.t (k := tKey s) ((e1.trans (e2.trans e3)) _ _ h) (by rw [tKey_kV]; exact hb) (by
    have zl : sizeLine = 16777216 := by decide
    unfold talD
    rw [List.length_map]
    omega), by
    rw [put_tal]
    exact c H3 (e1.trans (e2.trans e3))⟩
/-- [.. for x in sorted(d)] -/
theorem lcT {j : Nat} {vs : List Nat} {d : Addr} {m : Tal} (f : List Int → V) (hd : Ev td σ H (.ref d)) (h : H d = some (.dT (talD m))) (hz : m.length ≤ 1000) (hne : m.length ≤ 1 ∨ ∀ p ∈ m, p.1 ≠ []) (hw : ∀ x, wipe ((wipe σ vs).set j (some x)) vs = wipe σ vs)
    (he : ∀ (b : Addr) (p : List Int × Int) H1, Ex H H1 → p ∈ m → H1 b = some (.tup (p.1.map V.int)) → Ev te ((wipe σ vs).set j (some (.ref b))) H1 (f p.1)) {H1 : Hp} (e : Ex H H1) {Q : VK}
    (q : ∀ (ss : List (List Int)) p H2, ss.Perm (m.map (·.1)) → Ex H1 H2 → H2 p = some (.lst (ss.map f)) → Q (.ref p) H2) : tLc (iList K (tCB rSortT (tCons td tNil))) (gName j) tYes te vs σ H1 Q :=
  hd H1 e _ fun H2 e2 => ⟨d, m, rfl, (e.trans e2) _ _ h, hz, hne, fun p bs np pm hb => ⟨p, rfl, ⟨_, sq_of upd_same⟩, fun Dl hD => by
    have hlen : bs.length ≤ 1000 := by have := pm.length_eq; rw [List.length_map, List.length_map] at this; omega
    have hx3 : Ex H (upd H2 p (.lst (bs.map fun b => V.ref b.1))) := (e.trans e2).trans (Ex.new np)
    refine lc_list (xs := bs.map fun b => V.ref b.1) (Cw (upd H2 p (.lst (bs.map fun b => V.ref b.1))) (fun _ => true) (fun i => f ((bs.getD i (0, [])).2)) Dl) ⟨hD, Ex.new hD, upd_same⟩ (fun i H' _ c => sq_of (c.2.1 p _ upd_same)) (fun i x H' hi c => ?_) (fun H' c => ?_)
    · rw [List.getElem?_map] at hi
      cases hb2 : bs[i]? with
      | none => rw [hb2] at hi; cases hi
      | some b =>
        rw [hb2] at hi
        obtain rfl : V.ref b.1 = x := Option.some.inj hi
        have hbm := List.mem_of_getElem? hb2
        have hil : i < bs.length := (List.getElem?_eq_some_iff.mp hb2).1
        have hmem : b.2 ∈ m.map (·.1) := pm.mem_iff.mp (List.mem_map.mpr ⟨b, hbm, rfl⟩)
        obtain ⟨pp, hp, epp⟩ := List.mem_map.mp hmem
        have egd : bs.getD i (0, []) = b := by rw [List.getD_eq_getElem?_getD, hb2]; rfl
        exact ⟨hw _, cw_turn c (by omega) et_yes (fun _ => by
          rw [egd, ← epp]
          exact he b.1 pp _ hx3 hp (by rw [epp]; exact (Ex.new np) _ _ (hb b hbm)))⟩
    · refine q (bs.map (·.2)) Dl H' pm (e2.trans ((Ex.new np).trans c.2.1)) ?_
      rw [c.2.2, given_all, List.length_map, List.map_map]
      congr 2
      apply List.ext_getElem?
      intro k
      rw [List.getElem?_map, List.getElem?_map]
      by_cases hk : k < bs.length
      · rw [List.getElem?_range hk, List.getElem?_eq_getElem hk]
        show some (f ((bs.getD k (0, [])).2)) = some (f bs[k].2)
        rw [List.getD_eq_getElem?_getD, List.getElem?_eq_getElem hk]
        rfl
      · rw [List.getElem?_eq_none (by rw [List.length_range]; omega), List.getElem?_eq_none (by omega)]
        rfl⟩⟩
theorem ev_anyT {j : Nat} {vs : List Nat} {d : Addr} {m : Tal} (hd : Ev td σ H (.ref d)) (h : H d = some (.dT (talD m))) (hz : m.length ≤ 1000) (hne : m.length ≤ 1 ∨ ∀ p ∈ m, p.1 ≠ []) (hw : ∀ x, wipe ((wipe σ vs).set j (some x)) vs = wipe σ vs)
    (he : ∀ (b : Addr) (p : List Int × Int) H1, Ex H H1 → p ∈ m → H1 b = some (.tup (p.1.map V.int)) → Ev te ((wipe σ vs).set j (some (.ref b))) H1 (.bl false)) : Ev (tCB (rAny K) (tCons (tLc (iList K (tCB rSortT (tCons td tNil))) (gName j) tYes te vs) tNil)) σ H (.bl false) := fun H1 e Q q =>
  show (tLc (iList K (tCB rSortT (tCons td tNil))) (gName j) tYes te vs) σ H1 (fun x H2 => rAny K [x] H2 Q) from lcT (fun _ => .bl false) hd h hz hne hw he e fun ss p H2 pm e2 hp => ⟨p, ss.map fun _ => false, rfl, sq_of (by rw [List.map_map]; exact hp), by
    have : (ss.map fun _ => false).any id = false := by
      rw [List.any_eq_false]
      intro x hx
      obtain ⟨_, _, rfl⟩ := List.mem_map.mp hx
      decide
    rw [this]
    exact q H2 e2⟩
theorem ev_sumT {j : Nat} {vs : List Nat} {d : Addr} {m : Tal} (f : List Int → Int) (hd : Ev td σ H (.ref d)) (h : H d = some (.dT (talD m))) (hz : m.length ≤ 1000) (hne : m.length ≤ 1 ∨ ∀ p ∈ m, p.1 ≠ []) (hw : ∀ x, wipe ((wipe σ vs).set j (some x)) vs = wipe σ vs)
    (he : ∀ (b : Addr) (p : List Int × Int) H1, Ex H H1 → p ∈ m → H1 b = some (.tup (p.1.map V.int)) → Ev te ((wipe σ vs).set j (some (.ref b))) H1 (.int (f p.1))) : Ev (tCB (rSum K) (tCons (tLc (iList K (tCB rSortT (tCons td tNil))) (gName j) tYes te vs) tNil)) σ H (.int ((m.map fun p => f p.1).sum)) := fun H1 e Q q =>
  show (tLc (iList K (tCB rSortT (tCons td tNil))) (gName j) tYes te vs) σ H1 (fun x H2 => rSum K [x] H2 Q) from lcT (fun s => .int (f s)) hd h hz hne hw he e fun ss p H2 pm e2 hp => ⟨p, ss.map f, rfl, sq_of (by rw [List.map_map]; exact hp), by
    have e3 : (ss.map f).sum = (m.map fun p => f p.1).sum := by
      have := perm_sum (pm.map f)
      rw [List.map_map] at this
      exact this
    rw [e3]
    exact q H2 e2⟩
/-- sum of a list of ints -/
theorem ev_sum {a : Addr} {ns : List Int} (h : Ev ta σ H (.ref a)) (hs : SqL K H a (ns.map V.int)) : Ev (tCB (rSum K) (tCons ta tNil)) σ H (.int ns.sum) := fun H1 e Q q =>
  h H1 e _ fun H2 e2 => ⟨a, ns, rfl, ex_l (e.trans e2) hs, q H2 e2⟩
theorem ev_sumN {ns : List Int} (h : EvL ta σ H (ns.map V.int)) : Ev (tCB (rSum K) (tCons ta tNil)) σ H (.int ns.sum) := fun H1 e Q q =>
  h H1 e _ fun a H2 n e2 ha => ⟨a, ns, rfl, sq_of ha, q H2 e2⟩
/-- the turns of zip, for a comprehension -/
theorem lc_zip {a b : Addr} {xs ys : List V} {j1 j2 n : Nat} {vs : List Nat} {H1 : Hp} {Dl : Addr} {Qd : Hp → Prop} (h1 : n ≤ xs.length) (h2 : n ≤ ys.length) (h3 : xs.length ≤ n ∨ ys.length ≤ n) (Pv : Nat → Hp → Prop) (h0 : Pv 0 (upd H1 Dl (.lst []))) (hl : ∀ i H, i ≤ n → Pv i H → SqL K H a xs ∧ SqL K H b ys)
    (hs : ∀ i x y H T, i < n → xs[i]? = some x → ys[i]? = some y → Pv i H → H T = none → wipe (((wipe σ vs).set j1 (some x)).set j2 (some y)) vs = wipe σ vs ∧ t (((wipe σ vs).set j1 (some x)).set j2 (some y)) (upd H T (.tup [x, y])) fun b H3 =>
      if b = true then te (((wipe σ vs).set j1 (some x)).set j2 (some y)) H3 fun y H4 => ∃ acc, H4 Dl = some (.lst acc) ∧ acc.length < sizeLine ∧ Pv (i + 1) (upd H4 Dl (.lst (acc ++ [y]))) else Pv (i + 1) H3) (hd : ∀ H, Pv n H → Qd H) :
    ∃ W : Nat → Nat → Hp → Prop, (∃ m, W 0 m (upd H1 Dl (.lst []))) ∧ ∀ i m H, W i m H →
      ((Itz K a b).stop i H ∧ Qd H) ∨ ((Itz K a b).go i H ∧ ∃ Nx : Hp → Prop, (∀ H', Nx H' → ∃ m', m' < m ∧ W (i + 1) m' H') ∧ ∀ x H', (Itz K a b).yld i H x H' → (gTup K 2 (gCons (gName j1) (gCons (gName j2) gNil))) x (wipe σ vs) H' fun σ2 H2 => wipe σ2 vs = wipe σ vs ∧ t σ2 H2 fun b H3 =>
        if b = true then te σ2 H3 fun y H4 => ∃ acc, H4 Dl = some (.lst acc) ∧ acc.length < sizeLine ∧ Nx (upd H4 Dl (.lst (acc ++ [y]))) else Nx H3) := by
  refine ⟨fun i m H => i + m = n ∧ Pv i H, ⟨n, by omega, h0⟩, fun i m H hW => ?_⟩
  obtain ⟨em, hP⟩ := hW
  obtain ⟨hA, hB⟩ := hl i H (by omega) hP
  by_cases hi : i < n
  · refine .inr ⟨⟨xs, ys, xs[i], ys[i], hA, hB, List.getElem?_eq_getElem (by omega), List.getElem?_eq_getElem (by omega)⟩, Pv (i + 1), fun H' hp => ⟨m - 1, by omega, by omega, hp⟩, fun x H' hy => ?_⟩
    obtain ⟨T, x1, y1, rfl, nT, rfl, f, g⟩ := hy
    exact ⟨T, [x1, y1], rfl, st_of upd_same, rfl, _, _, rfl, _, _, rfl, rfl, hs i x1 y1 H T hi (f xs hA) (g ys hB) hP nT⟩
  · have ei : i = n := by omega
    subst ei
    exact .inl ⟨⟨xs, ys, hA, hB, h3⟩, hd H hP⟩
theorem el_lcZ {a : Addr} {xs ys : List V} {j1 j2 n : Nat} {vs : List Nat} (f : Nat → Bool) (v : Nat → V) (h : Ev ta σ H (.ref a)) (hx : SqL K H a xs) (hb : EvL tb σ H ys) (h1 : n ≤ xs.length) (h2 : n ≤ ys.length) (h3 : xs.length ≤ n ∨ ys.length ≤ n) (hz : n ≤ 40000) (hw : ∀ x y, wipe (((wipe σ vs).set j1 (some x)).set j2 (some y)) vs = wipe σ vs)
    (ht : ∀ (i : Nat) (x y : V) H1, Ex H H1 → xs[i]? = some x → ys[i]? = some y → EvT t (((wipe σ vs).set j1 (some x)).set j2 (some y)) H1 (f i)) (he : ∀ (i : Nat) (x y : V) H1, Ex H H1 → xs[i]? = some x → ys[i]? = some y → f i = true → Ev te (((wipe σ vs).set j1 (some x)).set j2 (some y)) H1 (v i)) :
    EvL (tLc (iZip K (tCons ta (tCons tb tNil))) (gTup K 2 (gCons (gName j1) (gCons (gName j2) gNil))) t te vs) σ H (given n f v) := fun H0 e Q q => h H0 e _ fun H1 e1 => hb H1 (e.trans e1) _ fun b H2 nb e2 hy => ⟨a, b, xs, ys, rfl, ex_l (e.trans (e1.trans e2)) hx, sq_of hy, fun Dl hD =>
  lc_zip (xs := xs) (ys := ys) h1 h2 h3 (Cw H2 f v Dl) ⟨hD, Ex.new hD, upd_same⟩ (fun i H' _ p => ⟨ex_l ((e.trans (e1.trans e2)).trans p.2.1) hx, sq_of (p.2.1 _ _ hy)⟩) (fun i x y H' T hin hi hi2 p nT => by
    have nD : Dl ≠ T := ne_of_none p.2.2 nT
    have p' : Cw H2 f v Dl i (upd H' T (.tup [x, y])) := ⟨p.1, p.2.1.trans (Ex.new nT), by rw [upd_ne nD]; exact p.2.2⟩
    exact ⟨hw _ _, cw_turn p' (by omega) (ht i x y H2 (e.trans (e1.trans e2)) hi hi2) (fun hf => he i x y H2 (e.trans (e1.trans e2)) hi hi2 hf)⟩)
    (fun H' p => q Dl H' (fresh_back (e1.trans e2) p.1) ((e1.trans e2).trans p.2.1) p.2.2)⟩
end
end Oa
/-! the rows of a length, told apart by shape -/
namespace Oa
def shapeF (row : List Int) : List Int := (List.range (knownF row)).map fun k : Nat => ((row.count (k : Int) : Nat) : Int)
def talS (m : Tal) (r : List Int) : Tal := putT m (shapeF r) ((getT m (shapeF r)).getD 0 + 1)
def talF (rows : List (List Int)) : Tal := rows.foldl talS []
theorem talF_snoc (rows : List (List Int)) (r : List Int) : talF (rows ++ [r]) = talS (talF rows) r := by
  unfold talF
  rw [List.foldl_append]
  rfl
instance (s : List Int) : Decidable (IsShape s) := inferInstanceAs (Decidable (_ ∧ _))
def okT (n : Nat) : Bool :=
  let m := talF (rowsF n)
  decide (m.length ≤ 1 ∨ ∀ p ∈ m, p.1 ≠ []) && (m.all fun p => decide (ofF p.1 = p.2) && (decide (IsShape p.1) && (decide (p.1.sum ≤ 20) && decide (getT m p.1 = some p.2)))) && decide ((m.map fun p => p.2 * p.2).sum = topF n)
theorem okT_all : ∀ n : Fin 7, okT n = true := by decide +kernel
theorem tal_ok {n : Nat} (h : n ≤ 6) : ((talF (rowsF n)).length ≤ 1 ∨ ∀ p ∈ talF (rowsF n), p.1 ≠ []) ∧ (∀ p ∈ talF (rowsF n), ofF p.1 = p.2 ∧ IsShape p.1 ∧ p.1.sum ≤ 20 ∧ getT (talF (rowsF n)) p.1 = some p.2) ∧ ((talF (rowsF n)).map fun p => p.2 * p.2).sum = topF n := by
  have h1 := okT_all ⟨n, by omega⟩
  unfold okT at h1
  simp only [Bool.and_eq_true, List.all_eq_true, decide_eq_true_eq] at h1
  exact ⟨h1.1.1, fun p hp => let h := h1.1.2 p hp; ⟨h.1, h.2.1, h.2.2.1, h.2.2.2⟩, h1.2⟩
def okS (n : Nat) : Bool := (talF (rowsF n)).all fun p => decide (0 ≤ p.2) && decide (p.2 ≤ 100)
theorem okS_all : ∀ n : Fin 7, okS n = true := by decide +kernel
theorem tal_small {n : Nat} (h : n ≤ 6) : ∀ p ∈ talF (rowsF n), 0 ≤ p.2 ∧ p.2 ≤ 100 := fun p hp => by
  have h1 := okS_all ⟨n, by omega⟩
  unfold okS at h1
  simp only [Bool.and_eq_true, List.all_eq_true, decide_eq_true_eq] at h1
  exact h1 p hp
theorem putT_len (m : Tal) (s : List Int) (v : Int) : (putT m s v).length ≤ m.length + 1 := by
  unfold putT
  split
  · rw [List.length_map]; omega
  · rw [List.length_append]; exact Nat.le_refl _
theorem talG_len : ∀ (rows : List (List Int)) (m : Tal), (rows.foldl talS m).length ≤ m.length + rows.length
  | [], _ => Nat.le_refl _
  | r :: rows, m => by
    have h1 := talG_len rows (talS m r)
    have h2 := putT_len m (shapeF r) ((getT m (shapeF r)).getD 0 + 1)
    have h3 : (talS m r).length ≤ m.length + 1 := h2
    show (rows.foldl talS (talS m r)).length ≤ _
    rw [List.length_cons]
    omega
theorem talF_len (rows : List (List Int)) : (talF rows).length ≤ rows.length := by
  have := talG_len rows []
  rw [List.length_nil, Nat.zero_add] at this
  exact this
open L2 Evl
theorem mem_sum_le : ∀ {s : List Int} {x : Int}, (∀ y ∈ s, 1 ≤ y) → x ∈ s → x ≤ s.sum
  | a :: r, x, h, hx => by
    have hr := shape_len (s := r) fun y hy => h y (List.mem_cons_of_mem _ hy)
    have ha := h a (List.mem_cons_self ..)
    rw [List.sum_cons]
    rcases List.mem_cons.mp hx with q | q
    · rw [q]; omega
    · have := mem_sum_le (fun y hy => h y (List.mem_cons_of_mem _ hy)) q
      omega
theorem given_over (ns : List Int) (j p : Nat) : given ((ns.drop j).map V.int).length (fun k => decide ((p : Int) < (ns.drop j).getD k 0)) (fun k => .int ((ns.drop j).getD k 0)) = ((ns.drop j).filter fun x => decide ((p : Int) < x)).map V.int := by
  rw [List.length_map]
  exact gv_list (ns.drop j) (fun x => decide ((p : Int) < x)) (fun x => V.int x) 0
def condL (s : List Int) (i : Nat) : Bool := decide (i + 1 = s.length) || decide (s.getD (i + 1) 0 < s.getD i 0)
def cutAt (s : List Int) (i : Nat) : List Int := s.take i ++ [s.getD i 0 - 1] ++ s.drop (i + 1)
def lessAt (s : List Int) (i : Nat) : List Int := (cutAt s i).filter fun x => decide (0 < x)
theorem cutAt_len {s : List Int} {i : Nat} (h : i < s.length) : (cutAt s i).length = s.length := by
  unfold cutAt
  rw [List.length_append, List.length_append, List.length_take, List.length_drop]
  show _ + 1 + _ = _
  omega
theorem given_pos (ns : List Int) (i : Nat) : given ((cutAt ns i).map V.int).length (fun k => decide (0 < (cutAt ns i).getD k 0)) (fun k => .int ((cutAt ns i).getD k 0)) = (lessAt ns i).map V.int := by
  rw [List.length_map]
  exact gv_list (cutAt ns i) (fun x => decide (0 < x)) (fun x => V.int x) 0
theorem dec_natL (i j : Nat) : decide (V.int (i : Int) = V.int (j : Int)) = decide (i = j) := by
  rw [dec_int]
  by_cases e : i = j
  · subst e; simp
  · rw [decide_eq_false e, beq_eq_false_iff_ne]; omega
theorem keep_pos {r : List Int} (h : ∀ x ∈ r, 1 ≤ x) : r.filter (fun x => decide (0 < x)) = r := List.filter_eq_self.mpr fun x hx => by
  have := h x hx
  exact decide_eq_true (by omega)
theorem less_dn : ∀ {s : List Int}, IsShape s → ((List.range s.length).filter (condL s)).map (lessAt s) = dnF s
  | [], _ => rfl
  | a :: r, h => by
    have ih := less_dn h.tail
    have ha := h.head.1
    have hr := h.tail.2
    have c0 : condL (a :: r) 0 = decide (r.getD 0 0 < a) := by
      unfold condL
      cases r with
      | nil => show (decide (0 + 1 = 1) || _) = decide ((0 : Int) < a); rw [decide_eq_true (show (0 : Int) < a by omega)]; rfl
      | cons b r => show (decide (0 + 1 = r.length + 1 + 1) || decide (b < a)) = decide (b < a); rw [decide_eq_false (by omega), Bool.false_or]
    have cs : (condL (a :: r)) ∘ Nat.succ = condL r := by
      funext i
      show (decide (i + 1 + 1 = r.length + 1) || decide ((a :: r).getD (i + 1 + 1) 0 < (a :: r).getD (i + 1) 0)) = (decide (i + 1 = r.length) || decide (r.getD (i + 1) 0 < r.getD i 0))
      rw [List.getD_cons_succ, List.getD_cons_succ]
      congr 1
      by_cases e : i + 1 = r.length
      · rw [decide_eq_true e, decide_eq_true (by omega)]
      · rw [decide_eq_false e, decide_eq_false (by omega)]
    have l0 : lessAt (a :: r) 0 = cons0 (a - 1) r := by
      show ((a - 1) :: r).filter _ = _
      unfold cons0
      rw [List.filter_cons, keep_pos hr]
      by_cases e : a - 1 = 0
      · rw [if_pos e, if_neg (by rw [decide_eq_false (by omega)]; decide)]
      · rw [if_neg e, if_pos (by rw [decide_eq_true (by omega)])]
    have ls : (lessAt (a :: r)) ∘ Nat.succ = fun i => a :: lessAt r i := by
      funext i
      show lessAt (a :: r) (i + 1) = a :: lessAt r i
      unfold lessAt
      have e : cutAt (a :: r) (i + 1) = a :: cutAt r i := by unfold cutAt; simp
      rw [e, List.filter_cons, if_pos (by rw [decide_eq_true (by omega)])]
    have e0 : List.range (a :: r).length = 0 :: (List.range r.length).map Nat.succ := by rw [List.length_cons, List.range_succ_eq_map]
    rw [e0, List.filter_cons, c0, List.filter_map, cs]
    unfold dnF
    rw [← ih, List.map_map]
    by_cases hc : r.getD 0 0 < a
    · rw [if_pos (by rw [decide_eq_true hc]), if_pos hc, List.map_cons, l0, List.map_map, ls]
      rfl
    · rw [if_neg (by rw [decide_eq_false hc]; decide), if_neg hc, List.map_map, ls]
      rfl
theorem cnt_nn (t : List Int) (p : Int) : 0 ≤ cntF t p := by unfold cntF; omega
theorem cnt_le (t : List Int) (p : Int) : cntF t p ≤ (t.length : Int) := by
  unfold cntF
  have := List.length_filter_le (fun x => decide (p < x)) t
  omega
theorem rowP_ok {a : Int} {t : List Int} (ha : a ≤ 20) (ht : t.length ≤ 20) : ∀ n : Nat, (n : Int) ≤ a → 0 < rowP a t n ∧ rowP a t n ≤ ((64 ^ n : Nat) : Int)
  | 0, _ => ⟨show (0 : Int) < 1 by decide, show (1 : Int) ≤ 1 by decide⟩
  | n + 1, h => by
    obtain ⟨h1, h2⟩ := rowP_ok ha ht n (by omega)
    have c1 := cnt_nn t (n : Int)
    have c2 := cnt_le t (n : Int)
    unfold rowP
    refine ⟨Int.mul_pos h1 (by omega), ?_⟩
    rw [Nat.pow_succ, Int.natCast_mul]
    exact Int.mul_le_mul h2 (by show _ ≤ (64 : Int); omega) (by omega) (Int.natCast_nonneg _)
theorem hook_ok : ∀ {s : List Int}, IsShape s → s.sum ≤ 20 → 0 < hookF s ∧ hookF s ≤ ((64 ^ s.sum.toNat : Nat) : Int)
  | [], _, _ => ⟨by decide, by decide⟩
  | a :: r, h, hl => by
    have hr := shape_len h.tail.2
    have ha := h.head.1
    rw [List.sum_cons] at hl
    obtain ⟨h1, h2⟩ := hook_ok h.tail (by omega)
    obtain ⟨k1, k2⟩ := rowP_ok (a := a) (t := r) (by omega) (by omega) a.toNat (by omega)
    unfold hookF
    refine ⟨Int.mul_pos k1 h1, ?_⟩
    rw [List.sum_cons, Int.toNat_add (by omega) (by omega), Nat.pow_add, Int.natCast_mul]
    exact Int.mul_le_mul k2 h2 (by omega) (Int.natCast_nonneg _)
theorem hook_pos {s : List Int} (h : IsShape s) (hl : s.sum ≤ 20) : 0 < hookF s := (hook_ok h hl).1
theorem hook_fit {s : List Int} (h : IsShape s) (hl : s.sum ≤ 20) : (hookF s).natAbs < 2 ^ 200 := by
  obtain ⟨h1, h2⟩ := hook_ok h hl
  have h3 : (hookF s).natAbs ≤ 64 ^ s.sum.toNat := by omega
  exact Nat.lt_of_le_of_lt (Nat.le_trans h3 (Nat.pow_le_pow_right (by decide) (show s.sum.toNat ≤ 20 by omega))) (by decide)
theorem shape_snoc {s : List Int} {x : Int} (h : IsShape s) (h1 : 1 ≤ x) (hx : ∀ y ∈ s, x ≤ y) : IsShape (s ++ [x]) := by
  refine ⟨List.pairwise_append.mpr ⟨h.1, List.pairwise_singleton _ _, fun a ha b hb => ?_⟩, fun y hy => ?_⟩
  · rw [List.mem_singleton.mp hb]; exact hx a ha
  · rcases List.mem_append.mp hy with q | q
    · exact h.2 y q
    · rw [List.mem_singleton.mp q]; exact h1
theorem shape_last {s : List Int} {x : Int} (h : IsShape (s ++ [x])) : ∀ y ∈ s ++ [x], x ≤ y := fun y hy => by
  rcases List.mem_append.mp hy with q | q
  · exact (List.pairwise_append.mp h.1).2.2 y q x (List.mem_singleton.mpr rfl)
  · rw [List.mem_singleton.mp q]; exact Int.le_refl _
theorem given_intsF (xss : List (List Int)) (f : List Int → Int) : given (dRows xss).length (fun _ => true) (fun i => .int (f (xss.getD i []))) = (xss.map f).map V.int := by
  rw [dRows_len]
  have := gv_list xss (fun _ => true) (fun p => V.int (f p)) []
  rw [given_gv, this, List.filter_eq_self.mpr (fun _ _ => rfl), List.map_map]
  rfl
theorem dn_sum : ∀ {s ν : List Int}, IsShape s → ν ∈ dnF s → ν.sum ≤ s.sum
  | [], ν, _, h => nomatch h
  | a :: r, ν, hs, h => by
    unfold dnF at h
    rcases List.mem_append.mp h with q | q
    · by_cases hc : r.getD 0 0 < a
      · rw [if_pos hc] at q
        rw [List.mem_singleton.mp q]
        unfold cons0
        rw [List.sum_cons]
        split
        · have := hs.head.1; omega
        · rw [List.sum_cons]; omega
      · rw [if_neg hc] at q; exact nomatch q
    · obtain ⟨μ, hm, rfl⟩ := List.mem_map.mp q
      have := dn_sum hs.tail hm
      rw [List.sum_cons, List.sum_cons]
      omega
end Oa
/-! lambdas of one parameter that capture nothing; calls of what a name holds -/
namespace Oa
open PySem PySem.Spec PyProof.Rows L2 Evl LamX
structure Lam where
  qual : Str
  params : Arguments
  body : Expr
  scope : Scope
def LamO (l : Lam) (f c : Addr) : HO := .ext fun h => ∃ pm ctv, h.get? f = some (PySem.W.kla_obj "<lambda>" l.qual l.params l.body l.scope [] pm c ctv)
def IsLam (H : Hp) (f : Addr) (l : Lam) : Prop := ∃ c, H f = some (LamO l f c) ∧ H c = some (CodeO c l.qual)
theorem lamO_ne {l : Lam} {f c : Addr} (ps : Array Value) : LamO l f c ≠ .tbl ps := fun z => by
  unfold LamO at z
  cases z
theorem IsLam.ext {H H' : Hp} {f : Addr} {l : Lam} (h : IsLam H f l) (e : ExtN H H') : IsLam H' f l := by
  obtain ⟨c, h1, h2⟩ := h
  exact ⟨c, e _ _ h1 lamO_ne, e _ _ h2 codeO_ne⟩
theorem IsLam.mono {H H' : Hp} {f : Addr} {l : Lam} (h : IsLam H f l) (e : Ex H H') : IsLam H' f l := h.ext (.of e)
/-- the lambda's promise -/
structure LamC (P : Program) (w : World) (K : PySem.W.Frag) (mg : Str → Option Value) (base : Heap) (CX : CXT) (k : Nat) (l : Lam) (sp : Sp) : Prop where
  run : ∀ (f : Addr) (A : Around) (outer : List Env) (s : Shared) (H : Hp) (us : List Value) (vs : List V) (Q : VK) (E : XK), Room k A → Env0 P w K mg base A outer s H → IsLam H f l → Vals vs us → sp vs H Q E →
    codeAny (model P w) A (.call (.ref f) ⟨us, []⟩) (CR CX outer P w H s Q E) s
theorem lam_of {P : Program} {w : World} {K : PySem.W.Frag} {mg : Str → Option Value} {base : Heap} {CX : CXT} {k : Nat} {l : Lam} {N : List Str} {x : Str} {sp : Sp} (S : FnScope N [x] l.scope) (len : ∀ vs H Q E, sp vs H Q E → vs.length = 1)
    (hbind : ∀ pm cv ctv u : Value, bindArgs (PySem.W.kla_fn "<lambda>" l.qual l.params l.body l.scope [] pm cv ctv) ⟨[u], []⟩ = pure [(x, u)])
    (hbody : ∀ (f : Addr) (cd : Value) (A : Around) (outer : List Env) (s : Shared) (H : Hp) (vs : List V) (Q : VK) (E : XK), Room k (A.deeper (envOfC l.qual l.scope s.heap.objs.size f cd)) → sp vs H Q E →
      ∃ t, PE (cxOf CX P w K mg base N l.qual l.scope f cd A outer s H E) l.body t ∧ t (L2.start N vs) H Q) : LamC P w K mg base CX (k + 1) l sp := by
  refine ⟨fun f A outer s H us vs Q E hr e0 hf r hsp => ?_⟩
  have hl := len _ _ _ _ hsp
  obtain ⟨c, h1, h2⟩ := hf
  obtain ⟨⟨pm, ctv, ho⟩, _, _⟩ := e0.hok f _ h1
  obtain ⟨⟨oc, fs, t0, g1, g2, g3⟩, _, _⟩ := e0.hok c _ h2
  have hlu : us.length = 1 := by rw [← r.length]; exact hl
  obtain ⟨u, rfl⟩ : ∃ u, us = [u] := List.length_eq_one_iff.mp hlu
  have lim : s.heap.NoLimit := e0.mod.nolimit.keeps fun b o eb => (e0.bs b o eb).1
  refine PySem.W.kla_callFunE hr.depth ho rfl S.co S.gen rfl ⟨c, oc, fs, t0, rfl, g1, g2, g3⟩ ?_
  rw [hbind]
  have hkind : ∀ y ∈ [x].zip [u], l.scope.names.lookup y.1 = some .local ∨ (l.scope.names.lookup y.1 = some .cell ∧ ((cellsFrom (s.heap.objs.size + 1) l.scope.names []).lookup y.1).isSome = true) := fun y hy => by
    have ey : y = (x, u) := List.mem_singleton.mp hy
    subst ey
    exact (S.par x (List.mem_singleton.mpr rfl)).imp id fun z => ⟨z, PySem.W.cellsFrom_some _ _ _ (.inl z)⟩
  refine wpAny_pure (wpAny_newFunctionEnv_cells S.kind hkind fun env he s1 z => ?_)
  subst he
  refine ⟨lim.keeps z.toInCall.keep, PySem.W.kla_codeExpr ?_⟩
  obtain ⟨t, ht, hq⟩ := hbody f (.ref c) A outer s H vs Q E (hr.deeper _) hsp
  have J0 : Inv (cxOf CX P w K mg base N l.qual l.scope f (.ref c) A outer s H E) [] (L2.start N vs) H s1 := inv_start (us := [u]) S hr.hd e0 hl r z
  refine wpAny_mono (ht.run [] s1 (L2.start N vs) H Q J0 hq) (fun v s2 h3 => ?_) fun e s2 h3 => h3
  obtain ⟨y, H', J, rv, q⟩ := h3
  exact ⟨y, H', J.os, J.bare, J.base, J.hok, rv, q⟩
/-! ### a lambda made -/
section
variable {X : Cx} {pins : List (Addr × Obj)} {σ : L2.St} {H : Hp} {s : Shared}
def tLamN (T : List (Addr × Str)) (l : Lam) : TE := fun _ H Q => Tabs T H ∧ ∀ f H1, ExtN H H1 → Tabs T H1 → H f = none → IsLam H1 f l → Q (.ref f) H1
theorem lamO_ok {P : Program} {w : World} {H : Hp} {h : Heap} {l : Lam} {f c : Addr} {pm ctv : Value} (e : h.get? f = some (PySem.W.kla_obj "<lambda>" l.qual l.params l.body l.scope [] pm c ctv)) : ObjOk P w H h f (LamO l f c) :=
  ⟨⟨pm, ctv, e⟩, ⟨_, e⟩, fun h1 h2 ⟨pm, ctv, e⟩ k => ⟨pm, ctv, k _ e⟩⟩
theorem pe_lam {T : List (Addr × Str)} {c P : Addr} {params : Arguments} {body : Expr} {scope : Scope} {pos : Pos} (TB : TabB X.base X.mg c P) (hcode : X.env.code = .ref c) (hm : (P, X.env.qual ++ "<lambda>") ∈ T) (hu : ∀ p ∈ T, p.1 = P → p.2 = X.env.qual ++ "<lambda>")
    (hdef : defaultsOf params X.env = ([], [])) (hcl : cloFrom X.env.cells scope.names [] = []) (hfree : ∀ y ∈ scope.names, y.2 ≠ .free) : PE X (.Lambda params body scope pos) (tLamN T ⟨X.env.qual ++ "<lambda>", params, body, scope⟩) := by
  refine ⟨fun pins s σ H Q I h => ?_⟩
  obtain ⟨hT, h⟩ := h
  obtain ⟨ps, hP, ht, ha⟩ := hT _ hm
  refine PySem.W.kla_eval hdef ?_
  have bP := TB.bm.keeps I.bk
  have hPo : s.heap.get? P = some { cls := .none, data := .fields ps } := I.hok P _ hP
  have hclo : closureFor scope X.env = pure [] := by
    rw [closure_ok fun y hy e => absurd e (hfree y hy), hcl]
  cases hc : codeAmong pos ps.toList with
  | none =>
    refine PySem.W.kla_makeFunction (mg := X.mg) (c := c) (P := P) (ps := ps) hclo I.ok.glob (I.mod.glob.keeps I.bk) hcode (TB.code.keeps I.bk) hPo ht hc TB.gP bP fun cn ctv h' tk hx hge hlt hrec htb => ?_
    obtain ⟨c2, oc, fs, t, e2, hoc, hd, hv⟩ := hrec
    obtain rfl : cn = c2 := Value.ref.inj e2
    have nC : H cn = none := I.hok.fresh hge
    have I1 := inv_table (t' := tk) (more := #[rawInt pos.line, rawInt pos.col, .ref cn]) (h' := h') I hP (fun b o hb e => hx b o hb e) htb hge ⟨oc, fs, t, hoc, hd, hv⟩
    have hsz : s.heap.objs.size ≤ h'.objs.size := Nat.le_trans hge (Nat.le_of_lt hlt)
    have I2 := I1.laid (a := h'.objs.size) (o := LamO ⟨X.env.qual ++ "<lambda>", params, body, scope⟩ h'.objs.size cn) (t' := tk) (h' := h'.push (PySem.W.kla_obj "<lambda>" (X.env.qual ++ "<lambda>") params body scope [] ((X.mg "__name__").getD .none) cn ctv))
      (fun b u e => Heap.get?_push_of_some _ e) (Nat.le_refl _) (lamO_ok (Heap.get?_push_size _ rfl))
    have nF := I1.hok.fresh (a := h'.objs.size) (Nat.le_refl _)
    have hE : ExtN H (upd (upd H P (.tbl (ps ++ #[rawInt pos.line, rawInt pos.col, .ref cn]))) cn (CodeO cn (X.env.qual ++ "<lambda>"))) := fun b o e n => by
      rw [upd_ne (ne_of_none e nC)]
      rw [upd_ne (fun z => n ps (Option.some.inj (e.symm.trans (by rw [z]; exact hP))))]
      exact e
    have eL : (ps ++ #[rawInt pos.line, rawInt pos.col, Value.ref cn]).toList = ps.toList ++ [rawInt pos.line, rawInt pos.col, .ref cn] := by simp
    have hT1 : Tabs T (upd (upd H P (.tbl (ps ++ #[rawInt pos.line, rawInt pos.col, .ref cn]))) cn (CodeO cn (X.env.qual ++ "<lambda>"))) := fun p hp => by
      by_cases hb : p.1 = P
      · rw [hu p hp hb, hb]
        refine ⟨_, by rw [upd_ne (ne_of_none hP nC)]; exact upd_same, by rw [eL]; exact PySem.TriplesOk_snoc _ _ _ _ ht, fun pz cv hcv => ?_⟩
        rw [eL] at hcv
        exact (among_app _ ht hcv).elim (fun z => let ⟨c0, e1, e3⟩ := ha pz cv z; ⟨c0, e1, hE _ _ e3 codeO_ne⟩) fun z => ⟨cn, z, upd_same⟩
      · obtain ⟨pr, a1, a2, a3⟩ := hT p hp
        refine ⟨pr, ?_, a2, fun pz cv hcv => let ⟨c0, e1, e3⟩ := a3 pz cv hcv; ⟨c0, e1, hE _ _ e3 codeO_ne⟩⟩
        rw [upd_ne (ne_of_none a1 nC)]
        rw [upd_ne hb]
        exact a1
    refine ⟨.ref h'.objs.size, _, I2, rfl, h h'.objs.size _ (hE.trans (.of (Ex.new nF))) (hT1.ext (Ex.new nF)) (I.hok.fresh hsz) ⟨cn, upd_same, (Ex.new nF) _ _ upd_same⟩⟩
  | some cv =>
    obtain ⟨cn, e, hco⟩ := ha pos cv hc
    subst e
    refine PySem.W.kla_makeFunctionHit (mg := X.mg) (c := c) (P := P) (ps := ps) hclo I.ok.glob (I.mod.glob.keeps I.bk) hcode (TB.code.keeps I.bk) hPo ht hc bP fun ctv h' tk hx hsz => ?_
    have I1 : Inv X pins σ H { s with heap := h', toks := tk } := I.kept hx
    have I2 := I1.laid (a := h'.objs.size) (o := LamO ⟨X.env.qual ++ "<lambda>", params, body, scope⟩ h'.objs.size cn) (t' := tk) (h' := h'.push (PySem.W.kla_obj "<lambda>" (X.env.qual ++ "<lambda>") params body scope [] ((X.mg "__name__").getD .none) cn ctv))
      (fun b u e => Heap.get?_push_of_some _ e) (Nat.le_refl _) (lamO_ok (Heap.get?_push_size _ rfl))
    have nF := I1.hok.fresh (a := h'.objs.size) (Nat.le_refl _)
    exact ⟨.ref h'.objs.size, _, I2, rfl, h h'.objs.size _ (.of (Ex.new nF)) (hT.ext (Ex.new nF)) (I.hok.fresh hsz) ⟨cn, upd_same, (Ex.new nF) _ _ hco⟩⟩
/-! ### what a name holds, called -/
def tCallV (P : Program) (w : World) (K : PySem.W.Frag) (mg : Str → Option Value) (base : Heap) (CX : CXT) (k i : Nat) (E : L2.St → XK) (t : TA) : TE := fun σ H Q => ∃ f, σ[i]? = some (some (.ref f)) ∧
  ((∃ l sp, IsLam H f l ∧ LamC P w K mg base CX k l sp ∧ t σ H fun vs H1 => IsLam H1 f l ∧ sp vs H1 Q (E σ)) ∨
   ∃ fd ps sp, FnOk P w K mg base CX k f fd ps sp ∧ PySem.W.keepIn K (.ref f) = true ∧ Binds K fd ps [] ∧ t σ H fun vs H1 => sp vs H1 Q (E σ))
theorem lam_at {f : Addr} {l : Lam} (I : Inv X pins σ H s) (h : IsLam H f l) : PySem.W.FnAt f s.heap := by
  obtain ⟨c, h1, _⟩ := h
  obtain ⟨⟨pm, ctv, e⟩, _, _⟩ := I.hok f _ h1
  exact ⟨_, _, _, _, e⟩
theorem pe_callV {CX : CXT} {k i : Nat} {E : L2.St → XK} {x : Str} {p pos : Pos} {e : Expr} {es : List Expr} {t : TA} (hr : Room k X.A) (hN : X.N[i]? = some x) (hv : Vis X.env.scope x) (hx : ∀ σ, PassesAt CX X σ (E σ)) (ha : PA X (e :: es) t)
    (hdb : (x == ("__debug__" : Str)) = false := by decide) (hcd : (x == ("__classdict__" : Str)) = false := by decide)
    (he : starEach (e :: es) X.env = (false, eval e X.env) :: starEach es X.env := by rfl) (hpl : (backTo pos (starEach es X.env)).any (·.1) = false := by rfl) :
    PE X (.Call (.Name x p) (e :: es) [] pos) (tCallV X.prog X.w X.K X.mg X.base CX k i E t) := by
  refine ⟨fun pins s σ H Q I h => ?_⟩
  obtain ⟨f, hs, h⟩ := h
  refine wpAny_Call_Name_kw (thn ((pe_var (pos := p) hN hv hdb hcd).run pins s σ H (fun v H1 => v = .ref f ∧ H1 = H) I ⟨.ref f, hs, rfl, rfl⟩) fun u s1 ⟨v, H1, I1, r1, q1⟩ => ?_)
  obtain ⟨rfl, rfl⟩ := q1
  cases r1
  rcases h with ⟨l, sp, hl, C, ht⟩ | ⟨fd, ps, sp, F, hk, hb, ht⟩
  · refine PySem.W.callWith_F (lam_at I1 hl) (thn (ha.run pos pins s1 σ _ _ I1 ht) fun us s2 ⟨vs, H2, I2, r, hl2, q⟩ => ⟨lam_at I2 hl2, ?_⟩) he hpl
    refine wpAny_call (codeAny_mono (C.run f X.A X.stack s2 H2 us vs Q (E σ) hr I2.env0 hl2 r q) fun res s3 hq => ?_)
    cases res with
    | error err => exact hx σ pins H2 s2 err s3 I2 hq
    | ok fl =>
      cases fl with
      | ret u => exact I2.after hq
      | next => exact False.elim hq
      | brk => exact False.elim hq
      | cont => exact False.elim hq
  · refine PySem.W.callWith_K (h₀ := X.base) I.ok.mod.kin hk (thn (ha.run pos pins s1 σ _ _ I1 ht) fun us s2 ⟨vs, H2, I2, r, q⟩ => ⟨I2.kIn, ?_⟩) he hpl
    exact run_fnSD (dvs := []) F hr hb .nil (hx σ) I2 r (by rw [List.append_nil]; exact q)
end
/-! ### a lambda of a text, by its place -/
def stDf : Stmt := .Pass ⟨0, 0, 0, 0⟩
def xDf : Expr := .Constant .none 0 ⟨0, 0, 0, 0⟩
def testOf : Stmt → Expr
  | .If t _ _ _ => t
  | _ => xDf
def forBody : Stmt → List Stmt
  | .For _ _ b _ _ => b
  | _ => []
def valOf : Stmt → Expr
  | .Assign _ v _ => v
  | .Return (some v) _ => v
  | _ => xDf
def leftOf : Expr → Expr
  | .Compare l _ _ _ => l
  | .BinOp l _ _ _ => l
  | _ => xDf
def rightOf : Expr → Expr
  | .BinOp _ _ r _ => r
  | _ => xDf
def argOf (i : Nat) : Expr → Expr
  | .Call _ as _ _ => as.getD i xDf
  | .List es _ => es.getD i xDf
  | _ => xDf
def unOf : Expr → Expr
  | .UnaryOp _ e _ => e
  | _ => xDf
def lamOf (q : Str) : Expr → Lam
  | .Lambda p b s _ => ⟨q, p, b, s⟩
  | _ => ⟨q, defArgs stDf, xDf, defScope stDf⟩
/-! ### a def that makes lambdas: its code object is known -/
structure PlC (K : PySem.W.Frag) (mg : Str → Option Value) (x : Str) (st : Stmt) (ps : List Str) (c : Addr) : Prop where
  ex : ∃ (f : Addr) (oc : Value) (od : Option Addr) (kV doc pm : Value) (an : Option Addr) (ct : Value) (osl : Array (Option Value)), K.lookup f = some ⟨oc, od, .func (PySem.W.fnOf x x (defArgs st) (defBody st) (defScope st) .none kV doc pm an (.ref c) ct), osl⟩ ∧ PySem.W.codeIn K (.ref c) x = true ∧ mg x = some (.ref f) ∧ PySem.W.keepIn K (.ref f) = true ∧ Binds K (PySem.W.fnOf x x (defArgs st) (defBody st) (defScope st) .none kV doc pm an (.ref c) ct) ps []
theorem PlC.ok {P : Program} {w : World} {K : PySem.W.Frag} {mg : Str → Option Value} {base : Heap} {x : Str} {st : Stmt} {N ps : List Str} {k : Nat} {sp : Sp} {c : Addr} (p : PlC K mg x st ps c) (S : FnScope N ps (defScope st)) (len : ∀ vs H Q E, sp vs H Q E → vs.length = ps.length)
    (hbody : ∀ (f : Addr) (A : Around) (outer : List Env) (s : Shared) (H : Hp) (vs : List V) (Q : VK) (E : XK), Room k (A.deeper (envOfC x (defScope st) s.heap.objs.size f (.ref c))) → sp vs H Q E →
      ∃ t, PSs (cxOf CX0 P w K mg base N x (defScope st) f (.ref c) A outer s H E).nox (defBody st) t ∧ t { nx := fun _ H' => Q .non H', rt := Q } (L2.start N vs) H) : Def P w K mg base CX0 (k + 1) x ps sp := by
  obtain ⟨f, oc, od, kV, doc, pm, an, ct, osl, lk, hcd, hm, hk, hb⟩ := p.ex
  refine ⟨f, _, fn_of lk hcd S len fun A outer s H vs Q E hr h => ?_, hm, hk, hb⟩
  obtain ⟨t, ht, hq⟩ := hbody f A outer s H vs Q E hr h
  exact ⟨t, ht.nox, hq⟩
end Oa
/-! the program's errors: raised, caught, told apart -/
namespace Oa
open PySem PySem.Spec PyProof.Rows L2 Evl
/-- CountError; BadRow, BadLength, BadNumber, BadShape, NoCounts -/
structure XC where
  e : Addr
  at_ : Nat → Addr
/-- one class -/
structure XcC (K : PySem.W.Frag) (mg : Str → Option Value) (x : Str) (C E : Addr) : Prop where
  g : mg x = some (.ref C)
  x : PySem.W.excIn K C [.type "ValueError", .type "Exception", .type "BaseException", .type "object"] "ValueError.__new__" = true
  k : PySem.W.keepIn K (.ref C) = true
  b : PySem.W.subIn K (.ref C) (.type "BaseException") = some true
  t : PySem.W.typeIn K (.ref C) = some (.type "type")
  c : ExcC K C
  m : PySem.W.exmOne K (.ref C) (.ref E) = some true
  v : PySem.W.kitOne K (.ref C) (.type "ValueError") = some true
structure Xs (K : PySem.W.Frag) (mg : Str → Option Value) (xc : XC) : Prop where
  cE : mg "CountError" = some (.ref xc.e)
  BadRow : XcC K mg "BadRow" (xc.at_ 0) xc.e
  BadLength : XcC K mg "BadLength" (xc.at_ 1) xc.e
  BadNumber : XcC K mg "BadNumber" (xc.at_ 2) xc.e
  BadShape : XcC K mg "BadShape" (xc.at_ 3) xc.e
  NoCounts : XcC K mg "NoCounts" (xc.at_ 4) xc.e
  kit : ∀ i j : Nat, i < 5 → j < 5 → PySem.W.kitOne K (.ref (xc.at_ i)) (.ref (xc.at_ j)) = some (decide (i = j))
theorem Xs.all {K : PySem.W.Frag} {mg : Str → Option Value} {xc : XC} (T : Xs K mg xc) {i : Nat} (h : i < 5) : ∃ x, XcC K mg x (xc.at_ i) xc.e := by
  match i, h with
  | 0, _ => exact ⟨_, T.BadRow⟩
  | 1, _ => exact ⟨_, T.BadLength⟩
  | 2, _ => exact ⟨_, T.BadNumber⟩
  | 3, _ => exact ⟨_, T.BadShape⟩
  | 4, _ => exact ⟨_, T.NoCounts⟩
  | i + 5, h => omega
section
variable {P : Program} {w : World} {K : PySem.W.Frag} {mg : Str → Option Value} {base : Heap}
theorem Pl.okX {x : Str} {st : Stmt} {N ps : List Str} {k : Nat} {sp : Sp} (p : Pl K mg x st ps) (S : FnScope N ps (defScope st)) (len : ∀ vs H Q E, sp vs H Q E → vs.length = ps.length)
    (hbody : ∀ (f : Addr) (cdv : Value) (A : Around) (outer : List Env) (s : Shared) (H : Hp) (vs : List V) (Q : VK) (E : XK), Room k (A.deeper (envOfC x (defScope st) s.heap.objs.size f cdv)) → sp vs H Q E →
      ∃ t, PSs (cxOf (L2.CX P w) P w K mg base N x (defScope st) f cdv A outer s H E) (defBody st) t ∧ t { nx := fun _ H' => Q .non H', rt := Q } (start N vs) H) : Def P w K mg base (L2.CX P w) (k + 1) x ps sp := by
  obtain ⟨f, fd, F, h1, h2⟩ := p.ex
  exact ⟨f, fd, F.okX S len fun cdv A outer s H vs Q E hr h => hbody f cdv A outer s H vs Q E hr h, h1, F.kp, h2⟩
end
/-- what a def lets out of what it calls -/
theorem passX {P : Program} {w : World} {K : PySem.W.Frag} {mg : Str → Option Value} {base : Heap} {N : List Str} {q : Str} {sc : Scope} {f : Addr} {cd : Value} {A : Around} {outer : List Env} {s : Shared} {H : Hp} {E : XK} : Passes (L2.CX P w) (cxOf (L2.CX P w) P w K mg base N q sc f cd A outer s H E) E :=
  passes_call (takes_of rfl rfl rfl rfl) fun _ _ _ _ h => h
/-- isinstance(error, C) in the suite -/
def rIsEA (K : PySem.W.Frag) (a : Addr) (cls : Value) (d : Option Addr) : List V → Hp → VK → Prop := fun xs H Q => ∃ (D : Addr) (c : V) (cv : Value) (b : Bool), cls = .ref D ∧ d = none ∧ ExcC K D ∧ xs = [.ref a, c] ∧ (∀ u, RelV c u → u = cv) ∧ PySem.W.kitOne K (.ref D) cv = some b ∧ Q (.bl b) H
theorem call_isEA {X : Cx} {a : Addr} {cls : Value} {d : Option Addr} {oe : Obj} {pn : List (Addr × Obj)} (hz : Zc cls d oe) (hf : ∃ vs, oe.data = .fields vs) : CallR (X.suite a ((a, oe) :: pn)) (.builtin "isinstance") (rIsEA X.K a cls d) := by
  intro pins s σ H xs us Q I r h
  obtain ⟨D, c, cv, b, rfl, rfl, C, rest⟩ := h
  exact call_isE C hz hf pins s σ H xs us Q I r ⟨c, cv, b, rest⟩
section
variable {K : PySem.W.Frag} {mg : Str → Option Value} {xc : XC} {σ : L2.St} {H : Hp}
theorem ev_isE (T : Xs K mg xc) {ta : TA} {a : Addr} {i j : Nat} (h : EvA ta σ H [.ref a, .ref (xc.at_ j)]) (hi : i < 5) (hj : j < 5) : Ev (tCB (rIsEA K a (.ref (xc.at_ i)) none) ta) σ H (.bl (decide (i = j))) :=
  ev_cb h fun H1 e1 Q q => by
    obtain ⟨x, C⟩ := T.all hi
    exact ⟨xc.at_ i, .ref (xc.at_ j), .ref (xc.at_ j), decide (i = j), rfl, rfl, C.c, rfl, fun u r => r, T.kit i j hi hj, q H1 (Ex.refl _)⟩
theorem ev_isEV (T : Xs K mg xc) {ta : TA} {a : Addr} {i : Nat} (h : EvA ta σ H [.ref a, .ty "ValueError"]) (hi : i < 5) : Ev (tCB (rIsEA K a (.ref (xc.at_ i)) none) ta) σ H (.bl true) :=
  ev_cb h fun H1 e1 Q q => by
    obtain ⟨x, C⟩ := T.all hi
    exact ⟨xc.at_ i, .ty "ValueError", .type "ValueError", true, rfl, rfl, C.c, rfl, fun u r => r, C.v, q H1 (Ex.refl _)⟩
end
/-- raised, whatever the heap that stands then -/
def Thrown (H : Hp) (C : Addr) (E : XK) : Prop := ∀ H', Ex H H' → E (.ref C) none H'
def SpX (sp : Sp) (vs : List V) (H : Hp) (C : Addr) : Prop := ∀ H1, Ex H H1 → ∀ (Q : VK) (E : XK), Thrown H1 C E → sp vs H1 Q E
theorem Thrown.mono {H H1 : Hp} {C : Addr} {E : XK} (t : Thrown H C E) (e : Ex H H1) : Thrown H1 C E := fun H' e' => t H' (e.trans e')
section
variable {σ : L2.St} {H : Hp} {ta : TA} {vs : List V} {sp : Sp} {C : Addr} {E : XK} {Q : VK} {t1 : TE}
theorem x_call (h : EvA ta σ H vs) (hs : SpX sp vs H C) (t : Thrown H C E) : tCall sp [] E ta σ H Q := h H (Ex.refl _) _ fun H1 e1 => by
  have := hs H1 e1 Q E (t.mono e1)
  rw [← List.append_nil vs] at this
  exact this
theorem x_callR (h : EvA ta σ H vs) (hs : SpX sp vs H C) (t : Thrown H C E) : tEi t1 (tCall sp [] E ta) σ H Q := .inr (x_call h hs t)
end
end Oa
/-! what the program refuses -/
namespace Oa
open PySem PySem.Spec PyProof.Rows L2 Evl
/-- what is no row: no list, a long one, one with a thing in it that is no number -/
inductive NoRow (K : PySem.W.Frag) (H : Hp) : V → Prop
  | other {x : V} {m : String} (ty : ∀ H1, Ex H H1 → TyX K H1 x (.type m)) (k : kitB m "list" = some false) : NoRow K H x
  | long {a : Addr} {xs : List V} (h : SqL K H a xs) (hl : 20 < xs.length) (hz : xs.length ≤ 1000) : NoRow K H (.ref a)
  | bad {a : Addr} {xs : List V} (h : SqL K H a xs) (hl : xs.length ≤ 20) (ms : List String) (hm : ms.length = xs.length) (ty : ∀ (i : Nat) (x : V) (m : String), xs[i]? = some x → ms[i]? = some m → ∀ H1, Ex H H1 → TyX K H1 x (.type m)) (bs : List Bool) (hb : bs.length = xs.length)
      (kb : ∀ (i : Nat) (m : String) (b : Bool), ms[i]? = some m → bs[i]? = some b → ∃ b1 b2, kitB m "int" = some b1 ∧ kitB m "bool" = some b2 ∧ b = (b1 && !b2)) (no : bs.all id = false) : NoRow K H (.ref a)
theorem NoRow.mono {K : PySem.W.Frag} {H H' : Hp} {x : V} (h : NoRow K H x) (e : Ex H H') : NoRow K H' x := by
  cases h with
  | other ty k => exact .other (fun H1 e1 => ty H1 (e.trans e1)) k
  | long h hl hz => exact .long (ex_l e h) hl hz
  | bad h hl ms hm ty bs hb kb no => exact .bad (ex_l e h) hl ms hm (fun i x m h1 h2 H1 e1 => ty i x m h1 h2 H1 (e.trans e1)) bs hb kb no
theorem given_bools (bs : List Bool) : given bs.length (fun _ => true) (fun i => .bl (bs.getD i false)) = bs.map V.bl := by
  rw [given_all]
  apply List.ext_getElem?
  intro i
  rw [List.getElem?_map, List.getElem?_map]
  by_cases h : i < bs.length
  · rw [List.getElem?_range h, List.getElem?_eq_getElem h]
    show some (V.bl (bs.getD i false)) = _
    rw [List.getD_eq_getElem?_getD, List.getElem?_eq_getElem h]
    rfl
  · rw [List.getElem?_eq_none (by rw [List.length_range]; omega), List.getElem?_eq_none (by omega)]
    rfl
/-- a row of numbers that are no counts -/
def NoCts (K : PySem.W.Frag) (H : Hp) (x : V) : Prop := ∃ (a : Addr) (ns : List Int), x = .ref a ∧ SqL K H a (ns.map V.int) ∧ ns.length ≤ 20 ∧ ¬ Good ns
theorem NoCts.mono {K : PySem.W.Frag} {H H' : Hp} {x : V} (h : NoCts K H x) (e : Ex H H') : NoCts K H' x := by
  obtain ⟨a, ns, rfl, h1, h2, h3⟩ := h
  exact ⟨a, ns, rfl, ex_l e h1, h2, h3⟩
/-- 0: no row; 4: no counts -/
def Refuses (K : PySem.W.Frag) (H : Hp) (x : V) (i : Nat) : Prop := (NoRow K H x ∧ i = 0) ∨ (NoCts K H x ∧ i = 4)
theorem Refuses.mono {K : PySem.W.Frag} {H H' : Hp} {x : V} {i : Nat} (h : Refuses K H x i) (e : Ex H H') : Refuses K H' x i := h.imp (fun z => ⟨z.1.mono e, z.2⟩) fun z => ⟨z.1.mono e, z.2⟩
/-- what is no length from lo to hi: no number, or one outside -/
inductive NoNum (K : PySem.W.Frag) (H : Hp) (lo hi : Int) : V → Prop
  | other {x : V} {m : String} {b1 b2 : Bool} (ty : ∀ H1, Ex H H1 → TyX K H1 x (.type m)) (k1 : kitB m "int" = some b1) (k2 : kitB m "bool" = some b2) (hb : (b1 && !b2) = false) : NoNum K H lo hi x
  | out {i : Int} (h : i < lo ∨ hi < i) : NoNum K H lo hi (.int i)
theorem NoNum.mono {K : PySem.W.Frag} {H H' : Hp} {lo hi : Int} {x : V} (h : NoNum K H lo hi x) (e : Ex H H') : NoNum K H' lo hi x := by
  cases h with
  | other ty k1 k2 hb => exact .other (fun H1 e1 => ty H1 (e.trans e1)) k1 k2 hb
  | out h => exact .out h
theorem no_chain {i : Int} (h : i < 0 ∨ 20 < i) : (decide ((0 : Int) ≤ i) && decide (i ≤ 20)) = false := by
  rcases h with h | h
  · rw [decide_eq_false (by omega)]; rfl
  · rw [decide_eq_false (show ¬ i ≤ 20 by omega), Bool.and_false]
theorem no_chainB {i m : Int} (h : i < 0 ∨ m - 1 < i) : (decide ((0 : Int) ≤ i) && decide (i < m)) = false := by
  rcases h with h | h
  · rw [decide_eq_false (by omega)]; rfl
  · rw [decide_eq_false (show ¬ i < m by omega), Bool.and_false]
/-- what is no shape: no list; a list with a thing that is no number from 1 on; a great sum; one that rises -/
inductive NoShape (K : PySem.W.Frag) (H : Hp) : V → Prop
  | other {x : V} {m : String} (ty : ∀ H1, Ex H H1 → TyX K H1 x (.type m)) (k : kitB m "list" = some false) : NoShape K H x
  | bad {a : Addr} {xs : List V} (h : SqL K H a xs) (hl : xs.length ≤ 1000) (bs : List Bool) (hb : bs.length = xs.length)
      (ok : ∀ (i : Nat) (x : V) (b : Bool), xs[i]? = some x → bs[i]? = some b → (∃ n : Int, x = .int n ∧ b = decide (n > 0)) ∨ (b = false ∧ ∃ m b1 b2, (∀ H1, Ex H H1 → TyX K H1 x (.type m)) ∧ kitB m "int" = some b1 ∧ kitB m "bool" = some b2 ∧ (b1 && !b2) = false)) (no : bs.all id = false) : NoShape K H (.ref a)
  | great {a : Addr} {ns : List Int} (h : SqL K H a (ns.map V.int)) (hl : ns.length ≤ 1000) (hp : ∀ n ∈ ns, 0 < n) (hs : 20 < ns.sum) : NoShape K H (.ref a)
  | rise {a : Addr} {ns : List Int} (h : SqL K H a (ns.map V.int)) (hl : ns.length ≤ 1000) (hp : ∀ n ∈ ns, 0 < n) (hs : ns.sum ≤ 20) (i : Nat) (x y : Int) (hx : ns[i]? = some x) (hy : ns[i + 1]? = some y) (hr : x < y) : NoShape K H (.ref a)
theorem NoShape.mono {K : PySem.W.Frag} {H H' : Hp} {x : V} (h : NoShape K H x) (e : Ex H H') : NoShape K H' x := by
  cases h with
  | other ty k => exact .other (fun H1 e1 => ty H1 (e.trans e1)) k
  | bad h hl bs hb ok no => exact .bad (ex_l e h) hl bs hb (fun i x b h1 h2 => (ok i x b h1 h2).imp id fun ⟨z, m, b1, b2, ty, r⟩ => ⟨z, m, b1, b2, fun H1 e1 => ty H1 (e.trans e1), r⟩) no
  | great h hl hp hs => exact .great (ex_l e h) hl hp hs
  | rise h hl hp hs i x y hx hy hr => exact .rise (ex_l e h) hl hp hs i x y hx hy hr
end Oa
/-! comprehensions over tuples of data; small words -/
namespace Oa
open PySem PySem.Spec PyProof.Rows L2 Evl
section
variable {K : PySem.W.Frag} {σ : L2.St} {H H' : Hp} {ta tb tc te tx tl : TE} {t u : TT} {x y z v : V} {r : R2} {D : Ends} {tu tw tz : TS} {g : TG} {xs ys : List V} {d : PyData} {ds : List PyData}
theorem dp_untup (h : Dp K H v (.tuple ds)) : ∃ a xs, v = .ref a ∧ SqT K H a xs ∧ DpAll K H xs ds := by
  cases h with
  | tup hs hd => exact ⟨_, _, rfl, hs, hd⟩
/-- [data for x in a tuple of data] -/
theorem edn_lcDT {j : Nat} {vs : List Nat} (f : Nat → Bool) (v : Nat → PyData) (h : EvD K tl σ H (.tuple ds)) (hz : ds.length ≤ 40000) (hw : ∀ x, wipe ((wipe σ vs).set j (some x)) vs = wipe σ vs)
    (ht : ∀ (i : Nat) (x : V) (d : PyData) H1, Ex H H1 → ds[i]? = some d → Dp K H1 x d → EvT t ((wipe σ vs).set j (some x)) H1 (f i)) (he : ∀ (i : Nat) (x : V) (d : PyData) H1, Ex H H1 → ds[i]? = some d → Dp K H1 x d → f i = true → EvDF K te ((wipe σ vs).set j (some x)) H1 (v i)) :
    EvDN K (tLc (iTup K tl) (gName j) t te vs) σ H (gv ds.length f v) := fun H0 e Q q => h H0 e _ fun w H1 e1 hd => by
  obtain ⟨a, xs, rfl, hx, hds⟩ := dp_untup hd
  have hl := dpA_len hds
  refine ⟨a, rfl, ⟨xs, hx⟩, fun Dl hD => lc_tup (xs := xs) (Cd K H1 f v Dl) (cd_start hD) (fun i H' _ p => ex_t p.2.1 hx) (fun i x H' hi p => ⟨hw x, ?_⟩) (fun H' p => cd_end q e1 (by rw [← hl]; exact p))⟩
  obtain ⟨d, h1, h2⟩ := dpA_at hds hi
  exact cd_turn p (by have := (List.getElem?_eq_some_iff.mp hi).1; omega) (ht i x d H1 (e.trans e1) h1 h2) (fun hf => he i x d H1 (e.trans e1) h1 h2 hf)
/-- [a flat thing for x in a tuple of data] -/
theorem el_lcDT {j : Nat} {vs : List Nat} (f : Nat → Bool) (v : Nat → V) (h : EvD K tl σ H (.tuple ds)) (hz : ds.length ≤ 40000) (hw : ∀ x, wipe ((wipe σ vs).set j (some x)) vs = wipe σ vs)
    (ht : ∀ (i : Nat) (x : V) (d : PyData) H1, Ex H H1 → ds[i]? = some d → Dp K H1 x d → EvT t ((wipe σ vs).set j (some x)) H1 (f i)) (he : ∀ (i : Nat) (x : V) (d : PyData) H1, Ex H H1 → ds[i]? = some d → Dp K H1 x d → f i = true → Ev te ((wipe σ vs).set j (some x)) H1 (v i)) :
    EvL (tLc (iTup K tl) (gName j) t te vs) σ H (given ds.length f v) := fun H0 e Q q => h H0 e _ fun w H1 e1 hd => by
  obtain ⟨a, xs, rfl, hx, hds⟩ := dp_untup hd
  have hl := dpA_len hds
  refine ⟨a, rfl, ⟨xs, hx⟩, fun Dl hD => lc_tup (xs := xs) (Cw H1 f v Dl) ⟨hD, Ex.new hD, upd_same⟩ (fun i H' _ p => ex_t p.2.1 hx) (fun i x H' hi p => ⟨hw x, ?_⟩) (fun H' p => q Dl H' (fresh_back e1 p.1) (e1.trans p.2.1) (by rw [← hl]; exact p.2.2))⟩
  obtain ⟨d, h1, h2⟩ := dpA_at hds hi
  exact cw_turn p (by have := (List.getElem?_eq_some_iff.mp hi).1; omega) (ht i x d H1 (e.trans e1) h1 h2) (fun hf => he i x d H1 (e.trans e1) h1 h2 hf)
theorem ev_opL2 {ys : List V} (ha : Ev ta σ H x) (hb : EvL tb σ H ys) (hr : ∀ p H1, H1 p = some (.lst ys) → Ex H H1 → RV r x (.ref p) H1 z) : Ev (tOp r ta tb) σ H z := fun H1 e Q q =>
  ha H1 e _ fun H2 e2 => hb H2 (e.trans e2) _ fun p H3 n e3 a => hr p H3 a (e.trans (e2.trans e3)) H3 (Ex.refl _) Q fun H4 e4 => q H4 (e2.trans (e3.trans e4))
/-- a call that raises, handed a new list of ints and a thing -/
theorem x_callNV {sp : Sp} {E : XK} {C : Addr} {Q : VK} {ns : List Int} (h : EvL te σ H (ns.map V.int)) (h2 : Ev tx σ H y) (hs : ∀ p H1, Ex H H1 → H1 p = some (.lst (ns.map V.int)) → SpX sp [.ref p, y] H1 C) (t : Thrown H C E) : tCall sp [] E (tCons te (tCons tx tNil)) σ H Q :=
  h H (Ex.refl _) _ fun p H1 n e1 a => h2 H1 e1 _ fun H2 e2 => hs p H2 (e1.trans e2) (e2 _ _ a) H2 (Ex.refl _) Q E (t.mono (e1.trans e2))
theorem edn_is {ds' : List PyData} (h : EvDN K te σ H ds) (e : ds = ds') : EvDN K te σ H ds' := e ▸ h
theorem q_asgDv {i : Nat} (h : EvD K te σ H d) (k : ∀ v H1, Ex H H1 → Dp K H1 v d → tz D (σ.set i (some v)) H1) : tSeq (tAsg te (gName i)) tz D σ H := h H (Ex.refl _) _ k
theorem gv_rows {n : Nat} {f : Nat → List Int} {xss : List (List Int)} (h : (List.range n).map f = xss) : gv n (fun _ => true) (fun k => dRow (f k)) = dRows xss := by
  rw [gv_all, ← h]
  unfold dRows
  rw [List.map_map]
  rfl
theorem given_int {n : Nat} {f : Nat → Int} {ns : List Int} (h : (List.range n).map f = ns) : given n (fun _ => true) (fun k => V.int (f k)) = ns.map V.int := by
  rw [given_all, ← h, List.map_map]
  rfl
theorem gv_rowsF {α : Type} (xss : List α) (z : α) (f : α → List Int) {n : Nat} (hn : n = xss.length) : gv n (fun _ => true) (fun i => dRow (f (xss.getD i z))) = dRows (xss.map f) := by
  subst hn
  have h := gv_list xss (fun _ => true) (fun p => dRow (f p)) z
  rw [h, List.filter_eq_self.mpr (fun _ _ => rfl)]
  unfold dRows
  rw [List.map_map]
  rfl
end
end Oa
/-! data that are refused; what stays when tables grow -/
namespace Oa
open PySem PySem.Spec PyProof.Rows L2 Evl
section
variable {K : PySem.W.Frag} {H H' : Hp} {v : V} {d : PyData} {ds : List PyData} {a : Addr} {xs : List V}
theorem rd_extN {u : HO} (e : LamX.ExtN H H') (nt : ∀ ps, u ≠ .tbl ps) (h : Rd H a u) : Rd H' a u := by
  rcases h with h | ⟨o, h⟩
  · exact .inl (e _ _ h nt)
  · exact .inr ⟨o, e _ _ h fun ps z => nomatch z⟩
theorem ln_l (e : LamX.ExtN H H') (h : SqL K H a xs) : SqL K H' a xs := h.imp (rd_extN e fun ps z => nomatch z) id
theorem ln_t (e : LamX.ExtN H H') (h : SqT K H a xs) : SqT K H' a xs := h.imp (rd_extN e fun ps z => nomatch z) id
mutual
theorem dp_extN (e : LamX.ExtN H H') : ∀ {v : V} {d : PyData}, Dp K H v d → Dp K H' v d
  | _, _, .non => .non
  | _, _, .bl b => .bl b
  | _, _, .int i => .int i
  | _, _, .str x => .str x
  | _, _, .lst h r => .lst (ln_l e h) (dpA_extN e r)
  | _, _, .tup h r => .tup (ln_t e h) (dpA_extN e r)
theorem dpA_extN (e : LamX.ExtN H H') : ∀ {vs : List V} {ds : List PyData}, DpAll K H vs ds → DpAll K H' vs ds
  | _, _, .nil => .nil
  | _, _, .cons h r => .cons (dp_extN e h) (dpA_extN e r)
end
theorem tyx_tup (h : SqT K H a xs) : TyX K H (.ref a) (.type "tuple") := by
  rcases h with (h | ⟨o, h⟩) | ⟨o, its, n, h1, h2, _⟩
  · exact .base (.tup h)
  · exact .fTuple h
  · exact .kTuple h1 h2
/-- the type's name of data -/
def tyD : PyData → String
  | .none => "NoneType"
  | .bool _ => "bool"
  | .int _ => "int"
  | .str _ => "str"
  | .list _ => "list"
  | .tuple _ => "tuple"
  | .dict _ => "dict"
theorem ty_dp (h : Dp K H v d) : TyX K H v (.type (tyD d)) := by
  cases h with
  | non => exact .base .non
  | bl b => exact .base (.bl b)
  | int i => exact .base (.int i)
  | str x => exact .base (.str x)
  | lst h r => exact tyx_list h
  | tup h r => exact tyx_tup h
def isIntD : PyData → Bool
  | .int _ => true
  | _ => false
theorem kit_int (d : PyData) : ∃ b1 b2, kitB (tyD d) "int" = some b1 ∧ kitB (tyD d) "bool" = some b2 ∧ isIntD d = (b1 && !b2) := by
  cases d with
  | none => exact ⟨false, false, (by decide +kernel : kitB "NoneType" "int" = some false), (by decide +kernel : kitB "NoneType" "bool" = some false), rfl⟩
  | bool b => exact ⟨true, true, (by decide +kernel : kitB "bool" "int" = some true), (by decide +kernel : kitB "bool" "bool" = some true), rfl⟩
  | int i => exact ⟨true, false, (by decide +kernel : kitB "int" "int" = some true), (by decide +kernel : kitB "int" "bool" = some false), rfl⟩
  | str x => exact ⟨false, false, (by decide +kernel : kitB "str" "int" = some false), (by decide +kernel : kitB "str" "bool" = some false), rfl⟩
  | list x => exact ⟨false, false, (by decide +kernel : kitB "list" "int" = some false), (by decide +kernel : kitB "list" "bool" = some false), rfl⟩
  | tuple x => exact ⟨false, false, (by decide +kernel : kitB "tuple" "int" = some false), (by decide +kernel : kitB "tuple" "bool" = some false), rfl⟩
  | dict x => exact ⟨false, false, (by decide +kernel : kitB "dict" "int" = some false), (by decide +kernel : kitB "dict" "bool" = some false), rfl⟩
def isListD : PyData → Bool
  | .list _ => true
  | _ => false
theorem kit_list (h : isListD d = false) : kitB (tyD d) "list" = some false := by
  cases d with
  | list x => cases h
  | none => decide +kernel
  | bool b => show kitB "bool" "list" = some false; decide +kernel
  | int i => show kitB "int" "list" = some false; decide +kernel
  | str x => show kitB "str" "list" = some false; decide +kernel
  | tuple x => show kitB "tuple" "list" = some false; decide +kernel
  | dict x => show kitB "dict" "list" = some false; decide +kernel
/-- from 1 on -/
def okD : PyData → Bool
  | .int n => decide (n > 0)
  | _ => false
inductive NoShapeD : PyData → Prop
  | other {d : PyData} (h : isListD d = false) : NoShapeD d
  | bad {ds : List PyData} (hl : ds.length ≤ 1000) (no : ds.all okD = false) : NoShapeD (.list ds)
  | great {ns : List Int} (hl : ns.length ≤ 1000) (hp : ∀ n ∈ ns, 0 < n) (hs : 20 < ns.sum) : NoShapeD (.list (ns.map .int))
  | rise {ns : List Int} (hl : ns.length ≤ 1000) (hp : ∀ n ∈ ns, 0 < n) (hs : ns.sum ≤ 20) (i : Nat) (x y : Int) (hx : ns[i]? = some x) (hy : ns[i + 1]? = some y) (hr : x < y) : NoShapeD (.list (ns.map .int))
theorem all_map_id {α : Type} (f : α → Bool) : ∀ l : List α, (l.map f).all id = l.all f
  | [] => rfl
  | a :: r => by rw [List.map_cons, List.all_cons, List.all_cons, all_map_id f r]; rfl
theorem nos_dp (h : Dp K H v d) (hd : NoShapeD d) : NoShape K H v := by
  cases hd with
  | other hl => exact .other (fun H1 e => ty_dp (dp_mono e h)) (kit_list hl)
  | bad hl no =>
    rename_i ds
    obtain ⟨a, xs, rfl, hs, hds⟩ := dp_unlist h
    have hlen := dpA_len hds
    refine .bad hs (by omega) (ds.map okD) (by rw [List.length_map, hlen]) (fun i x b hx hb => ?_) (by rw [all_map_id]; exact no)
    obtain ⟨d, h1, h2⟩ := dpA_at hds hx
    rw [List.getElem?_map, h1] at hb
    have hb' : okD d = b := Option.some.inj hb
    by_cases hi : isIntD d = true
    · cases d with
      | int n => exact .inl ⟨n, dp_invI h2, hb'.symm⟩
      | _ => cases hi
    · refine .inr ⟨?_, ?_⟩
      · rw [← hb']
        cases d with
        | int n => exact absurd rfl hi
        | _ => rfl
      · obtain ⟨b1, b2, k1, k2, k3⟩ := kit_int d
        exact ⟨_, b1, b2, fun H1 e => ty_dp (dp_mono e h2), k1, k2, by rw [← k3]; simpa using hi⟩
  | great hl hp hs =>
    obtain ⟨a, rfl, h1⟩ := dp_inv h
    exact .great h1 hl hp hs
  | rise hl hp hs i x y hx hy hr =>
    obtain ⟨a, rfl, h1⟩ := dp_inv h
    exact .rise h1 hl hp hs i x y hx hy hr
inductive NoRowD : PyData → Prop
  | other {d : PyData} (h : isListD d = false) : NoRowD d
  | long {ds : List PyData} (hl : 20 < ds.length) (hz : ds.length ≤ 1000) : NoRowD (.list ds)
  | bad {ds : List PyData} (hl : ds.length ≤ 20) (no : ds.all isIntD = false) : NoRowD (.list ds)
theorem nor_dp (h : Dp K H v d) (hd : NoRowD d) : NoRow K H v := by
  cases hd with
  | other hl => exact .other (fun H1 e => ty_dp (dp_mono e h)) (kit_list hl)
  | long hl hz =>
    obtain ⟨a, xs, rfl, hs, hds⟩ := dp_unlist h
    have hlen := dpA_len hds
    exact .long hs (by omega) (by omega)
  | bad hl no =>
    rename_i ds
    obtain ⟨a, xs, rfl, hs, hds⟩ := dp_unlist h
    have hlen := dpA_len hds
    refine .bad hs (by omega) (ds.map tyD) (by rw [List.length_map, hlen]) (fun i x m hx hm H1 e => ?_) (ds.map isIntD) (by rw [List.length_map, hlen]) (fun i m b hm hb => ?_) (by rw [all_map_id]; exact no)
    · obtain ⟨d, h1, h2⟩ := dpA_at hds hx
      rw [List.getElem?_map, h1] at hm
      have hm' : tyD d = m := Option.some.inj hm
      rw [← hm']
      exact ty_dp (dp_mono e h2)
    · rw [List.getElem?_map] at hm hb
      cases hd : ds[i]? with
      | none => rw [hd] at hm; cases hm
      | some d =>
        rw [hd] at hm hb
        have hm' : tyD d = m := Option.some.inj hm
        have hb' : isIntD d = b := Option.some.inj hb
        obtain ⟨b1, b2, k1, k2, k3⟩ := kit_int d
        rw [hm'] at k1 k2
        exact ⟨b1, b2, k1, k2, by rw [← hb', k3]⟩
/-- over a tuple of data, lambdas made on the way -/
theorem q_forDUN {ta : TA} {σ : L2.St} {D : Ends} {tu tz : TS} {g : TG} (h : EvDA K ta σ H ds) (hz : ds.length ≤ 100000) (Pv : Hp → Nat → L2.St → Hp → Prop) (h0 : ∀ B, Ex H B → Pv B 0 σ B) (hE : ∀ B i σ' H', Pv B i σ' H' → LamX.ExtN B H')
    (hs : ∀ B i x d σ' H', Ex H B → ds[i]? = some d → Dp K B x d → Pv B i σ' H' → g x σ' H' fun σ2 H2 => tu { D with nx := Pv B (i + 1), ct := Pv B (i + 1), bk := tz D } σ2 H2) (hd : ∀ B σ' H', Ex H B → Pv B ds.length σ' H' → tz D σ' H') : tSeq (tFor (iTup K (tTup ta)) g tu) tz D σ H :=
  h H (Ex.refl _) _ fun vs H2 e2 hv => ⟨sz_of (by rw [dpA_len hv]; exact hz), fun p np => ⟨p, rfl, ⟨vs, st_of upd_same⟩, for_tup (D := { D with nx := tz D }) (xs := vs) (Pv (upd H2 p (.tup vs))) (h0 _ (e2.trans (Ex.new np))) (fun i σ' H' _ hP => st_of (hE _ i σ' H' hP _ _ upd_same fun ps z => nomatch z))
    (fun i x σ' H' hi hP => by
      obtain ⟨d, hd1, hd2⟩ := dpA_at hv hi
      exact hs _ i x d σ' H' (e2.trans (Ex.new np)) hd1 (dp_mono (Ex.new np) hd2) hP) (fun σ' H' hP => hd _ σ' H' (e2.trans (Ex.new np)) (by rw [← dpA_len hv]; exact hP))⟩⟩
inductive NoNumD (lo hi : Int) : PyData → Prop
  | other {d : PyData} (h : isIntD d = false) : NoNumD lo hi d
  | out {i : Int} (h : i < lo ∨ hi < i) : NoNumD lo hi (.int i)
theorem non_dp {lo hi : Int} (h : Dp K H v d) (hd : NoNumD lo hi d) : NoNum K H lo hi v := by
  cases hd with
  | other hi =>
    obtain ⟨b1, b2, k1, k2, k3⟩ := kit_int d
    exact .other (fun H1 e => ty_dp (dp_mono e h)) k1 k2 (by rw [← k3]; exact hi)
  | out ho =>
    obtain rfl := dp_invI h
    exact .out ho
end
end Oa
/-! the end of a law whose defs make lambdas; the error classes' facts -/
namespace Oa
open PySem PySem.Spec PyProof.Rows L2 Evl
/-- the code object and the empty table of the def x -/
def OwnT (K : PySem.W.Frag) (mg : Str → Option Value) (h : Heap) (x : Str) : Prop := ∀ (f c P : Addr) (o : Obj) (fd : FuncData) (e : Value) (dd : Option Addr) (vs : Array Value) (sl : Array (Option Value)), mg x = some (.ref f) → K.lookup f = some o → o.data = .func fd → fd.code = .ref c → K.lookup c = some ⟨e, dd, .fields vs, sl⟩ → vs[11]? = some (.ref P) →
  PySem.W.CodeHd h c P ∧ h.get? P = some { cls := .none, data := .fields #[] }
theorem ownT_of {K : PySem.W.Frag} {mg : Str → Option Value} {h : Heap} {q : Program} {x : Str} (KX : K.In h) (hr : ((recsOf q).any fun e => e.name == x) = true)
    (T : ∀ d ∈ recsOf q, ∃ a o fd c P, mg d.name = some (.ref a) ∧ h.get? a = some o ∧ o.data = .func fd ∧ fd.code = .ref c ∧ h.IsCode c P #[] ∧ h.TableAt c P #[]) : OwnT K mg h x := fun f c P o1 fd1 e dd vs1 sl km k1 k2 k3 k4 k5 => by
  obtain ⟨dL, hm, hn1⟩ := List.any_eq_true.mp hr
  have hn2 : dL.name = x := beq_iff_eq.mp hn1
  obtain ⟨fx, ox, fdx, cx, Px, h1, h2, h3, h4, h5, h6⟩ := T dL hm
  rw [hn2, km] at h1
  obtain rfl : f = fx := Value.ref.inj (Option.some.inj h1)
  obtain rfl : o1 = ox := Option.some.inj ((KX _ _ k1).symm.trans h2)
  obtain rfl : fd1 = fdx := Data.func.inj (k2.symm.trans h3)
  obtain rfl : c = cx := Value.ref.inj (k3.symm.trans h4)
  have h7 := h6
  obtain ⟨⟨oc, vc, z1, _, z3, z4⟩, hP⟩ := h7
  obtain rfl := Option.some.inj ((KX _ _ k4).symm.trans z1)
  obtain rfl : vs1 = vc := Data.fields.inj z3
  obtain rfl : P = Px := Value.ref.inj (Option.some.inj (k5.symm.trans z4))
  exact ⟨PySem.W.CodeHd.of h5 h6, hP⟩
theorem walk_ofNm {l : PySem.W.OpenLaw} {n k : Nat} {q : Program} {loose : List Str} {XP : (Str → Option Value) → Heap → Prop} {YP : World → Heap → Prop} {d : DefRec} {K : Params → PySem.W.Frag} {CX : World → CXT} {x : Str} {names : List Str}
    (hn : l.most = some n) (hn2 : n ≤ sizeLine) (hdf : d.params.defaults = []) (hr : Room k callerA) (hrec : ∀ x ∈ names, ((recsOf q).any fun e => e.name == x) = true) (hY : ∀ (w : World) (h : Heap), YP w h → (K w.params).In h)
    (F : ∀ (w : World) (mg : Str → Option Value) (fa : Addr) (h : Heap), (K w.params).In h → h.Ns mainGlobals mg → mg d.name = some (.ref fa) → (∀ x ∈ names, OwnT (K w.params) mg h x) → LamX.LawAtS l w (K w.params) (CX w) k n x mg fa h)
    (hCX : ∀ (w : World) (H : Hp) (s : Shared) (e : Value) (s' : Shared), CX w [] H s (fun _ _ _ => False) e s' → False) :
    PySem.W.WalkO q loose XP YP l.row.toRowW d [] (fun f vs => PySem.call f vs) := by
  refine Att.attach_callB hn hdf fun w s₀ s₁ mg mb fa o pm cd doc a vs ns G Y ho hd hcd hmg hobj hints hlen hbits hg => ?_
  have KX := hY w _ Y
  obtain ⟨fd, cs, sp, hT, nT, C, hb, hsp, hF⟩ := F w mg fa _ KX G.T.g hmg fun x hx => ownT_of KX (hrec x hx) G.T.tab
  exact LamX.law_callTs KX G.T.g G.T.b G.T.builtins G.T.nolimit hg hT nT C G.T.bmain hobj hints (Nat.le_trans hlen hn2) hr hF hb (fun H hH hS => hsp H a ns hlen hbits hH hS) fun H e s' => hCX w H s₁ e s'
theorem exm_own {K : PySem.W.Frag} {A B : Addr} {r : Bool} (hb : PySem.W.subIn K (.ref B) (.type "BaseException") = some true) (c : PySem.W.isClsIn K B = true) (ty : PySem.W.typeIn K (.ref B) = some (.type "type")) (s : PySem.W.subIn K (.ref A) (.ref B) = some r) : PySem.W.exmOne K (.ref A) (.ref B) = some r := by
  unfold PySem.W.exmOne
  rw [hb, if_pos (by simp)]
  unfold PySem.W.kitCls
  have c' : (PySem.W.clsIn K B).isSome = true := by unfold PySem.W.isClsIn at c; exact c
  simp only [c', ty, Bool.true_and, beq_self_eq_true, if_true]
  exact s
theorem kit_val {K : PySem.W.Frag} {A : Addr} {r : Bool} (s : PySem.W.subIn K (.ref A) (.type "ValueError") = some r) : PySem.W.kitOne K (.ref A) (.type "ValueError") = some r := by
  unfold PySem.W.kitOne
  rw [if_neg (by simp)]
  show (if PySem.W.kitMeta "ValueError" = true then PySem.W.subIn K (.ref A) (.type "ValueError") else none) = some r
  rw [if_pos (by decide +kernel)]
  exact s
/-- the five classes -/
def mkXC (e c0 c1 c2 c3 c4 : Addr) : XC := ⟨e, fun i => match i with | 0 => c0 | 1 => c1 | 2 => c2 | 3 => c3 | _ => c4⟩
theorem kit_all {K : PySem.W.Frag} {e : Addr} {c0 c1 c2 c3 c4 : Addr} (h : ∀ i j : Fin 5, PySem.W.kitOne K (.ref ((mkXC e c0 c1 c2 c3 c4).at_ i)) (.ref ((mkXC e c0 c1 c2 c3 c4).at_ j)) = some (decide (i = j))) :
    ∀ i j : Nat, i < 5 → j < 5 → PySem.W.kitOne K (.ref ((mkXC e c0 c1 c2 c3 c4).at_ i)) (.ref ((mkXC e c0 c1 c2 c3 c4).at_ j)) = some (decide (i = j)) := fun i j hi hj => by
  rw [h ⟨i, hi⟩ ⟨j, hj⟩]
  congr 1
  by_cases q : i = j
  · rw [decide_eq_true q, decide_eq_true (Fin.ext q)]
  · rw [decide_eq_false q, decide_eq_false fun z => q (congrArg Fin.val z)]
theorem fin5 {p : Fin 5 → Prop} (h0 : p 0) (h1 : p 1) (h2 : p 2) (h3 : p 3) (h4 : p 4) : ∀ i, p i := fun i => by
  match i with
  | ⟨0, _⟩ => exact h0
  | ⟨1, _⟩ => exact h1
  | ⟨2, _⟩ => exact h2
  | ⟨3, _⟩ => exact h3
  | ⟨4, _⟩ => exact h4
/-- a def that makes lambdas, by its code object -/
theorem fnC {P : Program} {w : World} {K : PySem.W.Frag} {mg : Str → Option Value} {base : Heap} {x : Str} {st : Stmt} {N ps : List Str} {k : Nat} {sp : Sp} {f c : Addr} {oc kV doc pm ct : Value} {od an : Option Addr} {osl : Array (Option Value)}
    (lk : K.lookup f = some ⟨oc, od, .func (PySem.W.fnOf x x (defArgs st) (defBody st) (defScope st) .none kV doc pm an (.ref c) ct), osl⟩) (hcd : PySem.W.codeIn K (.ref c) x = true) (S : FnScope N ps (defScope st)) (len : ∀ vs H Q E, sp vs H Q E → vs.length = ps.length)
    (hbody : ∀ (A : Around) (outer : List Env) (s : Shared) (H : Hp) (vs : List V) (Q : VK) (E : XK), Room k (A.deeper (envOfC x (defScope st) s.heap.objs.size f (.ref c))) → sp vs H Q E →
      ∃ t, PSs (cxOf CX0 P w K mg base N x (defScope st) f (.ref c) A outer s H E).nox (defBody st) t ∧ t { nx := fun _ H' => Q .non H', rt := Q } (L2.start N vs) H) : FnOk P w K mg base CX0 (k + 1) f (PySem.W.fnOf x x (defArgs st) (defBody st) (defScope st) .none kV doc pm an (.ref c) ct) ps sp := by
  refine fn_of lk hcd S len fun A outer s H vs Q E hr h => ?_
  obtain ⟨t, ht, hq⟩ := hbody A outer s H vs Q E hr h
  exact ⟨t, ht.nox, hq⟩
/-! ### a law that hands on what makes lambdas -/
section
variable {σ : L2.St} {H : Hp} {ta tb te : TE} {D : Ends} {Q : VK}
theorem rt_ret (h : te σ H D.rt) : tRet te D σ H := h
theorem rt_and (h : Ev ta σ H (.bl true)) (k : ∀ H1, Ex H H1 → tb σ H1 Q) : tAndV ta tb σ H Q := h H (Ex.refl _) _ fun H1 e1 => ⟨true, rfl, iteT (k H1 e1)⟩
theorem rt_andR (h : ta σ H fun x H1 => ∃ c, x = .bl c ∧ if c = true then tb σ H1 Q else Q (.bl false) H1) : tAndV ta tb σ H Q := h
theorem ev_abs {i : Int} (h : Ev ta σ H (.int i)) : Ev (tCB (fun xs H Q => ∃ i, xs = [.int i] ∧ Q (.int (if i < 0 then -i else i)) H) (tCons ta tNil)) σ H (.int (if i < 0 then -i else i)) := fun H1 e Q q => h H1 e _ fun H2 e2 => ⟨i, rfl, q H2 e2⟩
end
end Oa
/-! defs and lambdas that refuse, handed on in lists; things by a property, lambdas made on the way -/
namespace Oa
open PySem PySem.Spec PyProof.Rows L2 Evl
/-- what can be called: a lambda, or a def of the program -/
def Cal (P : Program) (w : World) (K : PySem.W.Frag) (mg : Str → Option Value) (base : Heap) (k : Nat) (H : Hp) (f : Addr) (spl : Sp) : Prop :=
  (∃ l, IsLam H f l ∧ LamC P w K mg base (L2.CX P w) k l spl) ∨ ∃ fd ps, FnOk P w K mg base (L2.CX P w) k f fd ps spl ∧ PySem.W.keepIn K (.ref f) = true ∧ Binds K fd ps []
section
variable {P : Program} {w : World} {K : PySem.W.Frag} {mg : Str → Option Value} {base : Heap} {k : Nat} {H H' : Hp} {f : Addr} {spl : Sp} {σ : L2.St} {ta : TA} {vs : List V} {C : Addr} {E : L2.St → XK} {Q : VK}
theorem Cal.extN (c : Cal P w K mg base k H f spl) (e : LamX.ExtN H H') : Cal P w K mg base k H' f spl := c.imp (fun ⟨l, h1, h2⟩ => ⟨l, h1.ext e, h2⟩) id
theorem Cal.mono (c : Cal P w K mg base k H f spl) (e : Ex H H') : Cal P w K mg base k H' f spl := c.extN (.of e)
theorem cal_or (c : Cal P w K mg base k H f spl) (h : EvA ta σ H vs) (hs : SpX spl vs H C) (t : Thrown H C (E σ)) :
    (∃ l sp, IsLam H f l ∧ LamC P w K mg base (L2.CX P w) k l sp ∧ ta σ H fun vs H1 => IsLam H1 f l ∧ sp vs H1 Q (E σ)) ∨
     ∃ fd ps sp, FnOk P w K mg base (L2.CX P w) k f fd ps sp ∧ PySem.W.keepIn K (.ref f) = true ∧ Binds K fd ps [] ∧ ta σ H fun vs H1 => sp vs H1 Q (E σ) := by
  rcases c with ⟨l, h1, h2⟩ | ⟨fd, ps, h1, h2, h3⟩
  · exact .inl ⟨l, spl, h1, h2, h H (Ex.refl _) _ fun H1 e1 => ⟨h1.mono e1, hs H1 e1 Q _ (t.mono e1)⟩⟩
  · exact .inr ⟨fd, ps, spl, h1, h2, h3, h H (Ex.refl _) _ fun H1 e1 => hs H1 e1 Q _ (t.mono e1)⟩
theorem SpX.mono (h : SpX spl vs H C) (e : Ex H H') : SpX spl vs H' C := fun H1 e1 Q E t => h H1 (e.trans e1) Q E t
end
theorem lay_bools : ∀ bs : List Bool, PyData.canLayAll0 (bs.map PyData.bool) = true
  | [] => by simp only [List.map_nil, PyData.canLayAll0]
  | n :: r => by simp only [List.map_cons, PyData.canLayAll0, PyData.canLay0, lay_bools r, Bool.and_self]
theorem depth_bools : ∀ bs : List Bool, PyData.depthAll (bs.map PyData.bool) = 0
  | [] => by simp only [List.map_nil, PyData.depthAll]
  | n :: r => by simp only [List.map_cons, PyData.depthAll, PyData.depth, depth_bools r, Nat.max_self]
theorem shaped_bools (bs : List Bool) : SeqAt.shaped (.list (bs.map .bool)) = true := by
  unfold SeqAt.shaped
  simp only [PyData.canLay0, lay_bools, PyData.depth, depth_bools, Bool.true_and]
  decide
theorem eqv_boolsS : ∀ bs : List Bool, PyData.eqvAll (bs.map .bool) (bs.map .bool) = true
  | [] => by simp [PyData.eqvAll]
  | b :: r => by simp only [List.map_cons, PyData.eqvAll, PyData.eqv, eqv_boolsS r]; simp
theorem eqv_boolsL (bs : List Bool) : PyData.eqv (.list (bs.map .bool)) (.list (bs.map .bool)) = true := by
  simp only [PyData.eqv, eqv_boolsS]
/-! ### what stays when tables grow -/
theorem tyx_extN {K : PySem.W.Frag} {H H' : Hp} {x : V} {t : Value} (e : LamX.ExtN H H') (h : TyX K H x t) : TyX K H' x t := by
  cases h with
  | base b =>
    cases b with
    | non => exact .base .non
    | bl b => exact .base (.bl b)
    | int i => exact .base (.int i)
    | str x => exact .base (.str x)
    | flt x => exact .base (.flt x)
    | lst h => exact .base (.lst (e _ _ h fun ps z => nomatch z))
    | frz h => exact .base (.frz (e _ _ h fun ps z => nomatch z))
    | tup h => exact .base (.tup (e _ _ h fun ps z => nomatch z))
    | dK h => exact .base (.dK (e _ _ h fun ps z => nomatch z))
    | dT h => exact .base (.dT (e _ _ h fun ps z => nomatch z))
    | ins h cl ha hn htk hm => exact .base (.ins (e _ _ h fun ps z => nomatch z) cl ha hn htk hm)
  | byt b => exact .byt b
  | set h => exact .set (e _ _ h fun ps z => nomatch z)
  | kList h c => exact .kList h c
  | kTuple h c => exact .kTuple h c
  | kDict h c => exact .kDict h c
  | fTuple h => exact .fTuple (e _ _ h fun ps z => nomatch z)
  | fDict h => exact .fDict (e _ _ h fun ps z => nomatch z)
/-- a property that stays when tables grow -/
def Mon (Pd : Hp → V → Prop) : Prop := ∀ H H' v, LamX.ExtN H H' → Pd H v → Pd H' v
section
variable {K : PySem.W.Frag}
theorem ty_stays {H H' : Hp} {x : V} {m : String} (ty : ∀ H1, Ex H H1 → TyX K H1 x (.type m)) (e : LamX.ExtN H H') : ∀ H1, Ex H' H1 → TyX K H1 x (.type m) := fun H1 e1 => tyx_extN (e.trans (.of e1)) (ty H (Ex.refl _))
theorem mon_row : Mon (fun H v => NoRow K H v) := fun H H' v e h => by
  cases h with
  | other ty k => exact .other (ty_stays ty e) k
  | long h hl hz => exact .long (ln_l e h) hl hz
  | bad h hl ms hm ty bs hb kb no => exact .bad (ln_l e h) hl ms hm (fun i x m h1 h2 => ty_stays (ty i x m h1 h2) e) bs hb kb no
theorem mon_num {lo hi : Int} : Mon (fun H v => NoNum K H lo hi v) := fun H H' v e h => by
  cases h with
  | other ty k1 k2 hb => exact .other (ty_stays ty e) k1 k2 hb
  | out h => exact .out h
theorem mon_numA : Mon (fun H v => ∀ hi : Int, 0 ≤ hi → NoNum K H 0 hi v) := fun H H' v e h hi h0 => mon_num H H' v e (h hi h0)
theorem mon_shape : Mon (fun H v => NoShape K H v) := fun H H' v e h => by
  cases h with
  | other ty k => exact .other (ty_stays ty e) k
  | bad h hl bs hb ok no => exact .bad (ln_l e h) hl bs hb (fun i x b h1 h2 => (ok i x b h1 h2).imp id fun ⟨z, m, b1, b2, ty, r⟩ => ⟨z, m, b1, b2, ty_stays ty e, r⟩) no
  | great h hl hp hs => exact .great (ln_l e h) hl hp hs
  | rise h hl hp hs i x y hx hy hr => exact .rise (ln_l e h) hl hp hs i x y hx hy hr
theorem mon_cts : Mon (fun H v => NoCts K H v) := fun H H' v e h => by
  obtain ⟨a, ns, rfl, h1, h2, h3⟩ := h
  exact ⟨a, ns, rfl, ln_l e h1, h2, h3⟩
end
/-! ### what evaluates, lambdas made on the way -/
def EvX (T : List (Addr × Str)) (Pd : Hp → V → Prop) (te : TE) (σ : L2.St) (H : Hp) : Prop := ∀ H1, LamX.ExtN H H1 → LamX.Tabs T H1 → ∀ Q : VK, (∀ v H2, LamX.ExtN H1 H2 → LamX.Tabs T H2 → Pd H2 v → Q v H2) → te σ H1 Q
def EvXA (T : List (Addr × Str)) (Pd : Hp → V → Prop) (ta : TA) (n : Nat) (σ : L2.St) (H : Hp) : Prop := ∀ H1, LamX.ExtN H H1 → LamX.Tabs T H1 → ∀ Q : List V → Hp → Prop, (∀ vs H2, LamX.ExtN H1 H2 → LamX.Tabs T H2 → vs.length = n → (∀ v ∈ vs, Pd H2 v) → Q vs H2) → ta σ H1 Q
/-- a tracked list of n things -/
def LsP (Pd : Hp → V → Prop) (n : Nat) (H : Hp) (p : Addr) : Prop := ∃ vs, H p = some (.lst vs) ∧ vs.length = n ∧ ∀ v ∈ vs, Pd H v
def EvXL (T : List (Addr × Str)) (Pd : Hp → V → Prop) (te : TE) (n : Nat) (σ : L2.St) (H : Hp) : Prop := ∀ H1, LamX.ExtN H H1 → LamX.Tabs T H1 → ∀ Q : VK, (∀ p H2, LamX.ExtN H1 H2 → LamX.Tabs T H2 → LsP Pd n H2 p → Q (.ref p) H2) → te σ H1 Q
section
variable {K : PySem.W.Frag} {T : List (Addr × Str)} {Pd Pe : Hp → V → Prop} {σ : L2.St} {H H' : Hp} {ta tb te tx : TE} {tr : TA} {n m : Nat} {D : Ends} {tu tz : TS} {v : V} {d : PyData} {p : Addr}
theorem LsP.extN (mn : Mon Pd) (e : LamX.ExtN H H') (h : LsP Pd n H p) : LsP Pd n H' p := by
  obtain ⟨vs, h1, h2, h3⟩ := h
  exact ⟨vs, e _ _ h1 (fun ps z => nomatch z), h2, fun v hv => mn _ _ _ e (h3 v hv)⟩
theorem LsP.imp (i : ∀ H v, Pd H v → Pe H v) (h : LsP Pd n H p) : LsP Pe n H p := by
  obtain ⟨vs, h1, h2, h3⟩ := h
  exact ⟨vs, h1, h2, fun v hv => i _ _ (h3 v hv)⟩
theorem evx_D (h : ∀ H1, EvD K te σ H1 d) (hp : ∀ H2 v, Dp K H2 v d → Pd H2 v) : EvX T Pd te σ H := fun H1 e t Q q => h H1 H1 (Ex.refl _) Q fun v H2 e2 hd => q v H2 (.of e2) (t.ext e2) (hp H2 v hd)
theorem evx_c (hp : ∀ H2, Pd H2 v) : EvX T Pd (tC v) σ H := fun H1 e t Q q => q v H1 (LamX.ExtN.refl _) t (hp H1)
theorem evx_int {i : Int} (h : ∀ H1, Ev te σ H1 (.int i)) (hp : ∀ H2, Pd H2 (.int i)) : EvX T Pd te σ H := fun H1 e t Q q => h H1 H1 (Ex.refl _) Q fun H2 e2 => q _ H2 (.of e2) (t.ext e2) (hp H2)
theorem evx_L {ns : List Int} (h : ∀ H1, EvL te σ H1 (ns.map V.int)) (hp : ∀ H2 a, SqL K H2 a (ns.map V.int) → Pd H2 (.ref a)) : EvX T Pd te σ H := fun H1 e t Q q => h H1 H1 (Ex.refl _) Q fun p H2 n e2 a => q _ H2 (.of e2) (t.ext e2) (hp H2 p (sq_of a))
/-- {} -/
theorem evx_dict (hp : ∀ H2 a, H2 a = some (.dK []) → Pd H2 (.ref a)) : EvX T Pd tDNewK σ H := fun H1 e t Q q => fun p np => q _ _ (.of (Ex.new np)) (t.ext (Ex.new np)) (hp _ p upd_same)
theorem evx_lam {l : Lam} (hp : ∀ H2 f, IsLam H2 f l → Pd H2 (.ref f)) : EvX T Pd (tLamN T l) σ H := fun H1 e t Q q => ⟨t, fun f H2 e2 t2 nf hf => q _ H2 e2 t2 (hp H2 f hf)⟩
theorem evxa_nil : EvXA T Pd tNil 0 σ H := fun H1 e t Q q => q [] H1 (LamX.ExtN.refl _) t rfl fun v hv => nomatch hv
theorem evxa_cons (mn : Mon Pd) (h : EvX T Pd te σ H) (hr : EvXA T Pd tr n σ H) : EvXA T Pd (tCons te tr) (n + 1) σ H := fun H1 e t Q q =>
  h H1 e t _ fun v H2 e2 t2 hv => hr H2 (e.trans e2) t2 _ fun vs H3 e3 t3 hl hs => q (v :: vs) H3 (e2.trans e3) t3 (by rw [List.length_cons, hl]) fun u hu => by
    rcases List.mem_cons.mp hu with rfl | hu
    · exact mn _ _ _ e3 hv
    · exact hs u hu
theorem evxl_lst (mn : Mon Pd) (h : EvXA T Pd tr n σ H) (hn : n ≤ 100000) : EvXL T Pd (tLst tr) n σ H := fun H1 e t Q q =>
  h H1 e t _ fun vs H2 e2 t2 hl hs => ⟨sz_of (by omega), fun p hp => q p _ (e2.trans (.of (Ex.new hp))) (t2.ext (Ex.new hp)) ⟨vs, upd_same, hl, fun v hv => mn _ _ _ (.of (Ex.new hp)) (hs v hv)⟩⟩
theorem evxl_var {i : Nat} (mn : Mon Pd) (hs : σ[i]? = some (some (.ref p))) (h : LsP Pd n H p) : EvXL T Pd (tVar i) n σ H := fun H1 e t Q q => ⟨.ref p, hs, q p H1 (LamX.ExtN.refl _) t (h.extN mn e)⟩
theorem evxl_cat (mn : Mon Pd) (ha : EvXL T Pd ta n σ H) (hb : EvXL T Pd tb m σ H) (hn : n + m ≤ 100000) : EvXL T Pd (tOp rCat ta tb) (n + m) σ H := fun H1 e t Q q =>
  ha H1 e t _ fun p H2 e2 t2 h2 => hb H2 (e.trans e2) t2 _ fun p3 H3 e3 t3 h3 => by
    obtain ⟨vs, a1, a2, a3⟩ := h2.extN mn e3
    obtain ⟨ws, b1, b2, b3⟩ := h3
    refine ⟨p, p3, vs, ws, rfl, rfl, a1, b1, sz_of (by omega), fun p4 n4 => q p4 _ ((e2.trans e3).trans (.of (Ex.new n4))) (t3.ext (Ex.new n4)) ⟨vs ++ ws, upd_same, by rw [List.length_append, a2, b2], fun v hv => mn _ _ _ (.of (Ex.new n4)) ?_⟩⟩
    rcases List.mem_append.mp hv with hv | hv
    · exact a3 v hv
    · exact b3 v hv
theorem evxl_imp (i : ∀ H v, Pd H v → Pe H v) (h : EvXL T Pd te n σ H) : EvXL T Pe te n σ H := fun H1 e t Q q => h H1 e t Q fun p H2 e2 t2 hp => q p H2 e2 t2 (hp.imp i)
theorem q_asgX {i : Nat} (h : EvXL T Pd te n σ H) (t : LamX.Tabs T H) (k : ∀ p H1, LamX.ExtN H H1 → LamX.Tabs T H1 → LsP Pd n H1 p → tz D (σ.set i (some (.ref p))) H1) : tSeq (tAsg te (gName i)) tz D σ H := h H (LamX.ExtN.refl _) t _ k
theorem s_asgX {i : Nat} (h : EvXL T Pd te n σ H) (t : LamX.Tabs T H) (k : ∀ p H1, LamX.ExtN H H1 → LamX.Tabs T H1 → LsP Pd n H1 p → D.nx (σ.set i (some (.ref p))) H1) : tAsg te (gName i) D σ H := h H (LamX.ExtN.refl _) t _ k
theorem evx_Dn (h : ∀ H1, LamX.ExtN H H1 → EvD K te σ H1 d) (hp : ∀ H2 v, Dp K H2 v d → Pd H2 v) : EvX T Pd te σ H := fun H1 e t Q q => h H1 e H1 (Ex.refl _) Q fun v H2 e2 hd => q v H2 (.of e2) (t.ext e2) (hp H2 v hd)
/-- xs = [..]; xs.append(a new list) -/
theorem q_asgApp {i : Nat} {ys : List V} (mn : Mon Pd) (h : EvXA T Pd tr n σ H) (t : LamX.Tabs T H) (hn : n < 100000) (hi : ∀ p, (σ.set i (some (.ref p)))[i]? = some (some (.ref p))) (hy : ∀ p H1, EvL te (σ.set i (some (.ref p))) H1 ys) (hp : ∀ H2 a, SqL K H2 a ys → Pd H2 (.ref a))
    (k : ∀ p H1, LamX.ExtN H H1 → LamX.Tabs T H1 → LsP Pd (n + 1) H1 p → tz D (σ.set i (some (.ref p))) H1) : tSeq (tAsg (tLst tr) (gName i)) (tSeq (tDrop (tBM K "list" rAppend (tVar i) (tCons te tNil))) tz) D σ H :=
  h H (LamX.ExtN.refl _) t _ fun vs H2 e2 t2 hl hs => ⟨sz_of (by omega), fun p np => ⟨.ref p, hi p, .inl ⟨rfl, _, sq_of upd_same⟩, hy p _ _ (Ex.refl _) _ fun a H3 na e3 ha => ⟨p, vs, .ref a, rfl, rfl, e3 _ _ upd_same, sz_lt (by omega), by
    have nap : a ≠ p := fun z => by rw [z, upd_same] at na; cases na
    have eA : Ex H2 (upd H3 p (.lst (vs ++ [.ref a]))) := fun b o hb => by
      have nb : b ≠ p := ne_of_none hb np
      rw [upd_ne nb]
      exact e3 _ _ (by rw [upd_ne nb]; exact hb)
    refine k p _ (e2.trans (.of eA)) (t2.ext eA) ⟨vs ++ [.ref a], upd_same, by rw [List.length_append, hl]; rfl, fun v hv => ?_⟩
    rcases List.mem_append.mp hv with hv | hv
    · exact mn _ _ _ (.of eA) (hs v hv)
    · obtain rfl := List.mem_singleton.mp hv
      exact hp _ a (sq_of (by rw [upd_ne nap]; exact ha))⟩⟩⟩
theorem q_forLN {tl : TE} {g : TG} {xs : List V} (h : EvL tl σ H xs) (Pv : Addr → Nat → L2.St → Hp → Prop) (h0 : ∀ p H1, Ex H H1 → H1 p = some (.lst xs) → Pv p 0 σ H1) (hl : ∀ p i σ' H', Pv p i σ' H' → SqL K H' p xs)
    (hs : ∀ p i x σ' H', xs[i]? = some x → Pv p i σ' H' → g x σ' H' fun σ2 H2 => tu { D with nx := Pv p (i + 1), ct := Pv p (i + 1), bk := tz D } σ2 H2) (hd : ∀ p σ' H', Pv p xs.length σ' H' → tz D σ' H') : tSeq (tFor (iList K tl) g tu) tz D σ H :=
  h H (Ex.refl _) _ fun p B np e hp => ⟨p, rfl, ⟨xs, sq_of hp⟩, for_list (D := { D with nx := tz D }) (Pv p) (h0 p B e hp) (fun i σ' H' _ hP => hl p i σ' H' hP) (fun i x σ' H' hi hP => hs p i x σ' H' hi hP) (fun σ' H' hP => hd p σ' H' hP)⟩
end
end Oa
/-! a lambda that captures a name of its maker; what a name holds called, by what it does; a call for which the maker's cell stands still -/
namespace Oa
open PySem PySem.Spec PyProof.Rows L2 Evl LamX
/-! ### what can be called, by what it does -/
structure Ask (P : Program) (w : World) (K : PySem.W.Frag) (mg : Str → Option Value) (base : Heap) (k : Nat) (H : Hp) (f : Addr) (sp : Sp) : Prop where
  fn : ∀ (A : Around) (outer : List Env) (s : Shared) (H1 : Hp), ExtN H H1 → Env0 P w K mg base A outer s H1 → PySem.W.FnAt f s.heap
  run : ∀ (A : Around) (outer : List Env) (s : Shared) (H1 : Hp) (us : List Value) (vs : List V) (Q : VK) (E : XK), ExtN H H1 → Room k A → Env0 P w K mg base A outer s H1 → Vals vs us → sp vs H1 Q E →
    codeAny (model P w) A (.call (.ref f) ⟨us, []⟩) (CR CX0 outer P w H1 s Q E) s
section
variable {P : Program} {w : World} {K : PySem.W.Frag} {mg : Str → Option Value} {base : Heap} {k : Nat} {H H' : Hp} {f : Addr} {sp : Sp}
theorem Ask.extN (a : Ask P w K mg base k H f sp) (e : ExtN H H') : Ask P w K mg base k H' f sp :=
  ⟨fun A o s H1 e1 => a.fn A o s H1 (e.trans e1), fun A o s H1 us vs Q E e1 => a.run A o s H1 us vs Q E (e.trans e1)⟩
theorem Ask.mono (a : Ask P w K mg base k H f sp) (e : Ex H H') : Ask P w K mg base k H' f sp := a.extN (.of e)
theorem ask_lam {l : Lam} (h : IsLam H f l) (C : LamC P w K mg base CX0 k l sp) : Ask P w K mg base k H f sp :=
  ⟨fun A o s H1 e e0 => by
    obtain ⟨c, h1, _⟩ := h.ext e
    obtain ⟨⟨pm, ctv, z⟩, _, _⟩ := e0.hok f _ h1
    exact ⟨_, _, _, _, z⟩, fun A o s H1 us vs Q E e hr e0 r hs => C.run f A o s H1 us vs Q E hr e0 (h.ext e) r hs⟩
end
def tCallA (P : Program) (w : World) (K : PySem.W.Frag) (mg : Str → Option Value) (base : Heap) (k i : Nat) (E : XK) (t : TA) : TE := fun σ H Q => ∃ f sp, σ[i]? = some (some (.ref f)) ∧ Ask P w K mg base k H f sp ∧ t σ H fun vs H1 => Ask P w K mg base k H1 f sp ∧ sp vs H1 Q E
section
variable {X : Cx}
theorem pe_callA {k i : Nat} {E : XK} {x : Str} {p pos : Pos} {e : Expr} {es : List Expr} {t : TA} (hr : Room k X.A) (hN : X.N[i]? = some x) (hv : Vis X.env.scope x) (hx : Passes CX0 X E) (ha : PA X (e :: es) t)
    (hdb : (x == ("__debug__" : Str)) = false := by decide) (hcd : (x == ("__classdict__" : Str)) = false := by decide)
    (he : starEach (e :: es) X.env = (false, eval e X.env) :: starEach es X.env := by rfl) (hpl : (backTo pos (starEach es X.env)).any (·.1) = false := by rfl) :
    PE X (.Call (.Name x p) (e :: es) [] pos) (tCallA X.prog X.w X.K X.mg X.base k i E t) := by
  refine ⟨fun pins s σ H Q I h => ?_⟩
  obtain ⟨f, sp, hs, ask, h⟩ := h
  refine wpAny_Call_Name_kw (thn ((pe_var (pos := p) hN hv hdb hcd).run pins s σ H (fun v H1 => v = .ref f ∧ H1 = H) I ⟨.ref f, hs, rfl, rfl⟩) fun u s1 ⟨v, H1, I1, r1, q1⟩ => ?_)
  obtain ⟨rfl, rfl⟩ := q1
  cases r1
  refine PySem.W.callWith_F (ask.fn _ _ _ _ (ExtN.refl _) I1.env0) (thn (ha.run pos pins s1 σ _ _ I1 h) fun us s2 ⟨vs, H2, I2, r, a2, q⟩ => ⟨a2.fn _ _ _ _ (ExtN.refl _) I2.env0, ?_⟩) he hpl
  refine wpAny_call (codeAny_mono (a2.run X.A X.stack s2 H2 us vs Q E (ExtN.refl _) hr I2.env0 r q) fun res s3 hq => ?_)
  match res, hq with
  | .error err, hq => exact hx pins σ H2 s2 err s3 I2 hq
  | .ok (.ret u), hq => exact I2.after hq
  | .ok .next, hq => exact False.elim hq
  | .ok .brk, hq => exact False.elim hq
  | .ok .cont, hq => exact False.elim hq
/-! ### a call for which a cell of the caller stands still -/
def tCallC (sp : Heap → Sp) (E : XK) (c : Addr) (i : Nat) (t : TA) : TE := fun σ H Q => t σ H fun vs H1 => ∃ v, σ[i]? = some (some v) ∧ ∀ (b : Heap) (u : Value), RelV v u → b.IsCell c (some u) → sp b (vs ++ []) H1 Q E
/-- the base, and the cell at c -/
def baseC (base h : Heap) (c : Addr) : Heap := hidT h fun a => if a = c ∨ (base.get? a).isSome = true then none else some (.lst [])
theorem baseC_of {base h : Heap} {c a : Addr} {o : Obj} (e : (baseC base h c).get? a = some o) : h.get? a = some o ∧ (a = c ∨ ∃ u, base.get? a = some u) := by
  obtain ⟨e1, e2⟩ := of_hidT e
  refine ⟨e1, ?_⟩
  by_cases q : a = c ∨ (base.get? a).isSome = true
  · exact q.imp id Option.isSome_iff_exists.mp
  · rw [if_neg q] at e2
    cases e2
theorem baseC_base {base h : Heap} {c : Addr} (k : ∀ b o, base.get? b = some o → h.get? b = some o) : ∀ b o, base.get? b = some o → (baseC base h c).get? b = some o := fun b o e =>
  hidT_get (k b o e) (if_pos (.inr (by rw [e]; rfl)))
theorem baseC_cell {base h : Heap} {c : Addr} {v : Option Value} (x : h.IsCell c v) : (baseC base h c).IsCell c v := by
  obtain ⟨o, e, d⟩ := x
  exact ⟨o, hidT_get e (if_pos (.inl rfl)), d⟩
theorem Mod.keeps {K : PySem.W.Frag} {mg : Str → Option Value} {b1 b2 : Heap} (m : L2.Mod K mg b1) (k : ∀ b o, b1.get? b = some o → b2.get? b = some o) : L2.Mod K mg b2 := by
  obtain ⟨h1, h2, ⟨mb, h3, h4⟩, h5⟩ := m
  exact ⟨h1.keeps k, h2.keeps k, ⟨mb, h3.keeps k, h4⟩, h5.keeps k⟩
theorem env0C {pins : List (Addr × Obj)} {σ : L2.St} {H : Hp} {s : Shared} {y : Str} {c : Addr} (I : Inv X pins σ H s) (hc : X.env.cells.lookup y = some c) (hf : X.fn y = true) : Env0 X.prog X.w X.K X.mg (baseC X.base s.heap c) X.A X.stack s H := by
  have e0 := I.env0
  have ncf : ∀ L ∈ frs X.stack, L ≠ c := fun L hL z => by
    have hcab := I.ok.cab y c hf hc
    rcases I.ok.stk with e | ⟨e, hfr⟩
    · rw [e] at hL
      obtain ⟨_, o, ho, _⟩ := I.ok.funs.mem hL
      rw [z] at ho
      exact absurd hcab (Nat.not_le.mpr (Heap.lt_size ho))
    · rw [e] at hL
      unfold frs at hL
      rw [List.filterMap_cons, hfr] at hL
      rcases List.mem_cons.mp hL with q | q
      · exact I.cne y c hc (z.symm.trans q)
      · obtain ⟨_, o, ho, _⟩ := I.ok.funs.mem q
        rw [z] at ho
        exact absurd hcab (Nat.not_le.mpr (Heap.lt_size ho))
  have funs : ∀ l : List Env, (∀ L ∈ frs l, L ≠ c) → s.heap.FunFrames X.base l → s.heap.FunFrames (baseC X.base s.heap c) l := by
    intro l
    induction l with
    | nil => exact fun _ _ => trivial
    | cons env r ih =>
      intro hn hl
      obtain ⟨hk, ⟨L, o, hfr, hb, ho, hd⟩, hr⟩ := hl
      have hm : frs (env :: r) = L :: frs r := by unfold frs; rw [List.filterMap_cons, hfr]
      refine ⟨hk, ⟨L, o, hfr, ?_, ho, hd⟩, ih (fun L' hL' => hn L' (by rw [hm]; exact List.mem_cons_of_mem _ hL')) hr⟩
      cases q : (baseC X.base s.heap c).get? L with
      | none => rfl
      | some u =>
        rcases (baseC_of q).2 with z | ⟨u2, z⟩
        · exact absurd z (hn L (by rw [hm]; exact List.mem_cons_self))
        · rw [hb] at z; cases z
  refine ⟨e0.frames, Mod.keeps e0.mod (baseC_base fun b o e => (e0.bs b o e).1), fun b o e => ?_, Nat.le_of_eq (hidT_size _ _), funs X.stack ncf e0.funs, e0.frf, e0.hok, e0.bare⟩
  obtain ⟨e1, e2⟩ := baseC_of e
  refine ⟨e1, ?_⟩
  rcases e2 with z | ⟨u, z⟩
  · rw [z]; exact I.freeC y c hc
  · exact (e0.bs b u z).2
theorem pe_fnC {j k i : Nat} {x y : Str} {c : Addr} {ps : List Str} {sp : Heap → Sp} {E : XK} {p pos : Pos} {e : Expr} {es : List Expr} {t : TA} (d : ∀ b : Heap, DefG X.prog X.w X.K X.mg b j x ps (sp b)) (hj : j ≤ k) (hr : Room k X.A) (gd : X.A.guards = some []) (hg : Gl X x) (hx : Passes CX0 X E)
    (hN : X.N[i]? = some y) (hv : X.env.scope.names.lookup y = some .cell) (hc : X.env.cells.lookup y = some c) (hf : X.fn y = true) (ha : PA X (e :: es) t)
    (hdb : (x == ("__debug__" : Str)) = false := by decide) (he : starEach (e :: es) X.env = (false, eval e X.env) :: starEach es X.env := by rfl) (hpl : (backTo pos (starEach es X.env)).any (·.1) = false := by rfl) :
    PE X (.Call (.Name x p) (e :: es) [] pos) (tCallC sp E c i t) := by
  obtain ⟨f, fd, _, hm, hk, hb⟩ := (d X.base).ex
  refine ⟨fun pins s σ H Q I h => wpAny_Call_Name_kw (ld_glob I hg hm ?_ hdb)⟩
  refine PySem.W.callWith_K (h₀ := X.base) I.ok.mod.kin hk (thn (ha.run pos pins s σ H _ I h) fun us s1 ⟨vs, H1, I1, r, q⟩ => ⟨I1.kIn, ?_⟩) he hpl
  obtain ⟨v, hσ, q⟩ := q
  obtain ⟨m, _, hl⟩ := I1.loc
  obtain ⟨u, ru, lk⟩ := hl i y v hN hσ (.inr (.inl hv))
  have hcell : s1.heap.IsCell c (some u) := by
    have hk2 : X.env.kindOf y = some .cell := hv
    rcases lk with ⟨z, _⟩ | ⟨_, c2, z, hz⟩
    · rw [hk2] at z; cases z
    · rw [hc] at z; cases z; exact hz
  obtain ⟨f2, fd2, F2, hm2, hk3, hb2⟩ := (d (baseC X.base s1.heap c)).ex
  obtain rfl : f = f2 := by rw [hm] at hm2; cases hm2; rfl
  have q2 := q (baseC X.base s1.heap c) u ru (baseC_cell hcell)
  have hv2 : Vals (vs ++ []) us := by rw [List.append_nil]; exact r
  have hlen : (us ++ []).length = ps.length := by rw [List.append_nil, ← hv2.length]; exact F2.len _ _ _ _ q2
  have hb3 := hb2 s1 us I1.kIn hlen
  rw [List.append_nil] at hb3
  refine wpAny_call (codeAny_mono (F2.run X.A X.stack s1 H1 ⟨us, []⟩ us (vs ++ []) Q E (hr.mono hj) gd (env0C I1 hc hf) hb3 hv2 q2) fun r s' hq => ?_)
  match r, hq with
  | .error e, hq => exact hx pins σ H1 s1 e s' I1 hq
  | .ok (.ret u), hq => exact I1.after hq
  | .ok .next, hq => exact False.elim hq
  | .ok .brk, hq => exact False.elim hq
  | .ok .cont, hq => exact False.elim hq
end
/-! ### a lambda that captures -/
def LamOC (l : Lam) (cl : List (Str × Addr)) (f c : Addr) : HO := .ext fun h => ∃ pm ctv, h.get? f = some (PySem.W.kla_obj "<lambda>" l.qual l.params l.body l.scope cl pm c ctv)
def IsLamC (H : Hp) (f : Addr) (l : Lam) (cl : List (Str × Addr)) : Prop := ∃ c, H f = some (LamOC l cl f c) ∧ H c = some (CodeO c l.qual)
theorem lamOC_ne {l : Lam} {cl : List (Str × Addr)} {f c : Addr} (ps : Array Value) : LamOC l cl f c ≠ .tbl ps := fun z => by
  unfold LamOC at z
  cases z
theorem IsLamC.ext {H H' : Hp} {f : Addr} {l : Lam} {cl : List (Str × Addr)} (h : IsLamC H f l cl) (e : ExtN H H') : IsLamC H' f l cl := by
  obtain ⟨c, h1, h2⟩ := h
  exact ⟨c, e _ _ h1 lamOC_ne, e _ _ h2 codeO_ne⟩
theorem IsLamC.mono {H H' : Hp} {f : Addr} {l : Lam} {cl : List (Str × Addr)} (h : IsLamC H f l cl) (e : Ex H H') : IsLamC H' f l cl := h.ext (.of e)
/-- the body's context: cl, the captured cells -/
def cxC (CX : CXT) (P : Program) (w : World) (K : PySem.W.Frag) (mg : Str → Option Value) (base : Heap) (N : List Str) (qual : Str) (scope : Scope) (f : Addr) (cd : Value) (cl : List (Str × Addr)) (A : Around) (outer : List Env) (s : Shared) (H : Hp) (E : XK) : Cx :=
  let env := PySem.W.envX qual scope s.heap.objs.size f cd cl
  { prog := P, w := w, K := K, mg := mg, base := base, A := A.deeper env, N := N, s_0 := s, H_0 := H, env := env, outer := outer, stack := env :: outer, ex := [], fn := fun _ => false, calm := true, pn := [],
    xe := fun e s' => wpAny (model P w) (A.deeper env) (leaving env e) (fun _ s2 => CX outer H s E e s2) (fun e2 s2 => CX outer H s E e2 s2) s' }
/-- x: the parameter, y: the captured name -/
structure CapS (x y : Str) (sc : Scope) : Prop where
  kind : sc.kind = .function
  co : sc.isCoroutine = false
  gen : sc.isGenerator = false
  noc : ∀ z ∈ sc.names, z.2 ≠ .cell
  px : sc.names.lookup x = some .local
  py : sc.names.lookup y = some .free
  only : ∀ z ∈ sc.names, z.2 = .free → z.1 = y
  ne : x ≠ y
theorem inv_cap {CX : CXT} {P : Program} {w : World} {K : PySem.W.Frag} {mg : Str → Option Value} {base : Heap} {x y : Str} {qual : Str} {scope : Scope} {f c : Addr} {cd : Value} {A : Around} {outer : List Env} {s : Shared} {H : Hp} {E : XK} {u uc : Value} {v vc : V} {h1 : Heap} {tk : Nat}
    (S : CapS x y scope) (hd : A.handled = none) (e0 : Env0 P w K mg base A outer s H) (r : RelV v u) (rc : RelV vc uc) (hc : base.IsCell c (some uc))
    (hns : h1.Ns s.heap.objs.size fun z => ([(x, u)] : List (Str × Value)).reverse.lookup z) (kp : ∀ b o, s.heap.get? b = some o → h1.get? b = some o) :
    Inv (cxC CX P w K mg base [x, y] qual scope f cd [(y, c)] A outer s H E) [] [some v, some vc] H { s with heap := h1, toks := tk } := by
  have noA : ∀ b : Addr, b ∉ ([] : List Addr) := fun b z => nomatch z
  have hcb : s.heap.IsCell c (some uc) := hc.keeps fun b o e => (e0.bs b o e).1
  have one : ∀ {z : Str} {c2 : Addr}, ([(y, c)] : List (Str × Addr)).lookup z = some c2 → z = y ∧ c2 = c := fun {z c2} q => by
    rw [List.lookup_cons] at q
    by_cases zy : z = y
    · have t : (z == y) = true := by rw [zy]; exact beq_self_eq_true y
      rw [t] at q
      exact ⟨zy, (Option.some.inj q).symm⟩
    · have t : (z == y) = false := beq_false_of_ne zy
      rw [t] at q
      exact nomatch (show (none : Option Addr) = some c2 from q)
  have ly : ([(y, c)] : List (Str × Addr)).lookup y = some c := by
    rw [List.lookup_cons, beq_self_eq_true]
  refine
    { ok :=
        { mod := e0.mod, kind := S.kind, glob := rfl, blt := rfl, above := Nat.le_refl _, inj := fun a b c2 h1 h2 => (one h1).1.trans (one h2).1.symm, has := fun a ha => ?_, cab := (fun a c2 hz _ => nomatch (show false = true from hz)), hd := fun _ => hd,
          frames := Around.frames_deeper e0.frames, stk := .inr ⟨rfl, rfl⟩, exf := fun b z => absurd z (noA b), bs := e0.bs, bsz := e0.bsz, noex := fun b _ _ => noA b, exfs := fun b z => absurd z (noA b), funs := e0.funs, frf := e0.frf }
      os := rfl, bare := e0.bare, base := Un.kept kp, loc := ⟨_, hns, fun i z v2 q1 q2 q3 => ?_⟩, cell := fun a c2 q => ?_, free := e0.hok.fresh (Nat.le_refl _), freeC := fun a c2 q => ?_, pin := (fun q hq => absurd (show q ∈ ([] : List (Addr × Obj)) from hq) (fun z => nomatch z)), hok := e0.hok.kept kp, len := rfl }
  · have ha : scope.names.lookup a = some .cell ∨ scope.names.lookup a = some .free := ha
    rcases ha with ha | ha
    · exact absurd rfl (S.noc _ (PySem.mem_of_lookup ha))
    · obtain rfl : a = y := S.only _ (PySem.mem_of_lookup ha) rfl
      exact ⟨c, ly⟩
  · match i, q1, q2 with
    | 0, q1, q2 =>
      obtain rfl : x = z := Option.some.inj q1
      obtain rfl : v = v2 := Option.some.inj (Option.some.inj q2)
      refine ⟨u, r, .inl ⟨S.px, ?_⟩⟩
      show ([(x, u)] : List (Str × Value)).reverse.lookup x = some u
      rw [List.reverse_singleton, List.lookup_cons, beq_self_eq_true]
    | 1, q1, q2 =>
      obtain rfl : y = z := Option.some.inj q1
      obtain rfl : vc = v2 := Option.some.inj (Option.some.inj q2)
      exact ⟨uc, rc, .inr ⟨.inr S.py, c, ly, hcb.keeps kp⟩⟩
    | i + 2, q1, q2 => exact nomatch (show (none : Option Str) = some z from q1)
  · obtain ⟨_, rfl⟩ := one q
    exact ⟨some uc, hcb.keeps kp⟩
  · obtain ⟨_, rfl⟩ := one q
    obtain ⟨o, ho, _⟩ := hc
    exact (e0.bs _ _ ho).2
theorem ask_cap {P : Program} {w : World} {K : PySem.W.Frag} {mg : Str → Option Value} {base : Heap} {k : Nat} {l : Lam} {x y : Str} {c : Addr} {uc : Value} {vc : V} {sp : Sp} (S : CapS x y l.scope) (len : ∀ vs H Q E, sp vs H Q E → vs.length = 1) (rc : RelV vc uc) (hc : base.IsCell c (some uc))
    (hbind : ∀ pm cv ctv u : Value, bindArgs (PySem.W.kla_fn "<lambda>" l.qual l.params l.body l.scope [(y, c)] pm cv ctv) ⟨[u], []⟩ = pure [(x, u)])
    {H : Hp} (hbody : ∀ (f : Addr) (cd : Value) (A : Around) (outer : List Env) (s : Shared) (H1 : Hp) (v : V) (Q : VK) (E : XK), ExtN H H1 → Room k (A.deeper (PySem.W.envX l.qual l.scope s.heap.objs.size f cd [(y, c)])) → sp [v] H1 Q E →
      ∃ t, PE (cxC CX0 P w K mg base [x, y] l.qual l.scope f cd [(y, c)] A outer s H1 E) l.body t ∧ t [some v, some vc] H1 Q) {f : Addr} (h : IsLamC H f l [(y, c)]) : Ask P w K mg base (k + 1) H f sp := by
  refine ⟨fun A o s H1 e e0 => ?_, fun A outer s H1 us vs Q E e hr e0 r hsp => ?_⟩
  · obtain ⟨c2, h1, _⟩ := h.ext e
    obtain ⟨⟨pm, ctv, z⟩, _, _⟩ := e0.hok f _ h1
    exact ⟨_, _, _, _, z⟩
  have hl := len _ _ _ _ hsp
  obtain ⟨c2, h1, h2⟩ := h.ext e
  obtain ⟨⟨pm, ctv, ho⟩, _, _⟩ := e0.hok f _ h1
  obtain ⟨⟨oc, fs, t0, g1, g2, g3⟩, _, _⟩ := e0.hok c2 _ h2
  obtain ⟨v, rfl⟩ : ∃ v, vs = [v] := List.length_eq_one_iff.mp hl
  obtain ⟨u, rfl, ru⟩ := vals1 r
  have lim : s.heap.NoLimit := e0.mod.nolimit.keeps fun b o eb => (e0.bs b o eb).1
  refine PySem.W.kla_callFunE hr.depth ho rfl S.co S.gen rfl ⟨c2, oc, fs, t0, rfl, g1, g2, g3⟩ ?_
  rw [hbind]
  refine wpAny_pure (wpAny_newFunctionEnv S.noc (fun z hz => by
    obtain rfl : z = (x, u) := List.mem_singleton.mp hz
    exact S.px) (fun hh hns hsb => ⟨lim.fresh _ hsb, ?_⟩) S.kind)
  have kp : ∀ b o, s.heap.get? b = some o → hh.get? b = some o := fun b o eb => hsb.extBut b o (Nat.ne_of_lt (Heap.lt_size eb)) (Heap.get?_push_of_some _ eb)
  obtain ⟨t, ht, hq⟩ := hbody f (.ref c2) A outer s H1 v Q E e (hr.deeper _) hsp
  have J := inv_cap (CX := CX0) (qual := l.qual) (f := f) (cd := .ref c2) (E := E) (tk := s.toks + ([(x, u)] : List (Str × Value)).length) S hr.hd e0 ru rc hc hns kp
  refine PySem.W.kla_codeExpr (wpAny_mono (ht.run [] _ _ H1 Q J hq) (fun v2 s2 h3 => ?_) fun e2 s2 h3 => h3)
  obtain ⟨z, H2, J2, rv, q⟩ := h3
  exact ⟨z, H2, J2.os, J2.bare, J2.base, J2.hok, rv, q⟩
section
variable {X : Cx}
def tLamC (T : List (Addr × Str)) (l : Lam) (cl : List (Str × Addr)) : TE := fun _ H Q => Tabs T H ∧ ∀ f H1, ExtN H H1 → Tabs T H1 → H f = none → IsLamC H1 f l cl → Q (.ref f) H1
theorem lamOC_ok {P : Program} {w : World} {H : Hp} {h : Heap} {l : Lam} {cl : List (Str × Addr)} {f c : Addr} {pm ctv : Value} (e : h.get? f = some (PySem.W.kla_obj "<lambda>" l.qual l.params l.body l.scope cl pm c ctv)) : ObjOk P w H h f (LamOC l cl f c) :=
  ⟨⟨pm, ctv, e⟩, ⟨_, e⟩, fun h1 h2 ⟨pm, ctv, e⟩ k => ⟨pm, ctv, k _ e⟩⟩
theorem pe_lamC {T : List (Addr × Str)} {c P : Addr} {params : Arguments} {body : Expr} {scope : Scope} {pos : Pos} {cl : List (Str × Addr)} (TB : TabB X.base X.mg c P) (hcode : X.env.code = .ref c) (hm : (P, X.env.qual ++ "<lambda>") ∈ T) (hu : ∀ p ∈ T, p.1 = P → p.2 = X.env.qual ++ "<lambda>")
    (hdef : defaultsOf params X.env = ([], [])) (hcl : cloFrom X.env.cells scope.names [] = cl) (hfree : ∀ y ∈ scope.names, y.2 = .free → ∃ c, X.env.cells.lookup y.1 = some c) : PE X (.Lambda params body scope pos) (tLamC T ⟨X.env.qual ++ "<lambda>", params, body, scope⟩ cl) := by
  refine ⟨fun pins s σ H Q I h => ?_⟩
  obtain ⟨hT, h⟩ := h
  obtain ⟨ps, hP, ht, ha⟩ := hT _ hm
  refine PySem.W.kla_eval hdef ?_
  have bP := TB.bm.keeps I.bk
  have hPo : s.heap.get? P = some { cls := .none, data := .fields ps } := I.hok P _ hP
  have hclo : closureFor scope X.env = pure cl := by rw [closure_ok hfree, hcl]
  cases hc : codeAmong pos ps.toList with
  | none =>
    refine PySem.W.kla_makeFunction (mg := X.mg) (c := c) (P := P) (ps := ps) hclo I.ok.glob (I.mod.glob.keeps I.bk) hcode (TB.code.keeps I.bk) hPo ht hc TB.gP bP fun cn ctv hh tk hx hge hlt hrec htb => ?_
    obtain ⟨c2, oc, fs, t, e2, hoc, hd, hv⟩ := hrec
    obtain rfl : cn = c2 := Value.ref.inj e2
    have nC : H cn = none := I.hok.fresh hge
    have I1 := inv_table (t' := tk) (more := #[rawInt pos.line, rawInt pos.col, .ref cn]) (h' := hh) I hP (fun b o hb e => hx b o hb e) htb hge ⟨oc, fs, t, hoc, hd, hv⟩
    have hsz : s.heap.objs.size ≤ hh.objs.size := Nat.le_trans hge (Nat.le_of_lt hlt)
    have I2 := I1.laid (a := hh.objs.size) (o := LamOC ⟨X.env.qual ++ "<lambda>", params, body, scope⟩ cl hh.objs.size cn) (t' := tk) (h' := hh.push (PySem.W.kla_obj "<lambda>" (X.env.qual ++ "<lambda>") params body scope cl ((X.mg "__name__").getD .none) cn ctv))
      (fun b u e => Heap.get?_push_of_some _ e) (Nat.le_refl _) (lamOC_ok (Heap.get?_push_size _ rfl))
    have nF := I1.hok.fresh (a := hh.objs.size) (Nat.le_refl _)
    have hE : ExtN H (upd (upd H P (.tbl (ps ++ #[rawInt pos.line, rawInt pos.col, .ref cn]))) cn (CodeO cn (X.env.qual ++ "<lambda>"))) := fun b o e n => by
      rw [upd_ne (ne_of_none e nC)]
      rw [upd_ne (fun z => n ps (Option.some.inj (e.symm.trans (by rw [z]; exact hP))))]
      exact e
    have eL : (ps ++ #[rawInt pos.line, rawInt pos.col, Value.ref cn]).toList = ps.toList ++ [rawInt pos.line, rawInt pos.col, .ref cn] := by simp
    have hT1 : Tabs T (upd (upd H P (.tbl (ps ++ #[rawInt pos.line, rawInt pos.col, .ref cn]))) cn (CodeO cn (X.env.qual ++ "<lambda>"))) := fun p hp => by
      by_cases hb : p.1 = P
      · rw [hu p hp hb, hb]
        refine ⟨_, by rw [upd_ne (ne_of_none hP nC)]; exact upd_same, by rw [eL]; exact PySem.TriplesOk_snoc _ _ _ _ ht, fun pz cv hcv => ?_⟩
        rw [eL] at hcv
        exact (among_app _ ht hcv).elim (fun z => let ⟨c0, e1, e3⟩ := ha pz cv z; ⟨c0, e1, hE _ _ e3 codeO_ne⟩) fun z => ⟨cn, z, upd_same⟩
      · obtain ⟨pr, a1, a2, a3⟩ := hT p hp
        refine ⟨pr, ?_, a2, fun pz cv hcv => let ⟨c0, e1, e3⟩ := a3 pz cv hcv; ⟨c0, e1, hE _ _ e3 codeO_ne⟩⟩
        rw [upd_ne (ne_of_none a1 nC)]
        rw [upd_ne hb]
        exact a1
    refine ⟨.ref hh.objs.size, _, I2, rfl, h hh.objs.size _ (hE.trans (.of (Ex.new nF))) (hT1.ext (Ex.new nF)) (I.hok.fresh hsz) ⟨cn, upd_same, (Ex.new nF) _ _ upd_same⟩⟩
  | some cv =>
    obtain ⟨cn, e, hco⟩ := ha pos cv hc
    subst e
    refine PySem.W.kla_makeFunctionHit (mg := X.mg) (c := c) (P := P) (ps := ps) hclo I.ok.glob (I.mod.glob.keeps I.bk) hcode (TB.code.keeps I.bk) hPo ht hc bP fun ctv hh tk hx hsz => ?_
    have I1 : Inv X pins σ H { s with heap := hh, toks := tk } := I.kept hx
    have I2 := I1.laid (a := hh.objs.size) (o := LamOC ⟨X.env.qual ++ "<lambda>", params, body, scope⟩ cl hh.objs.size cn) (t' := tk) (h' := hh.push (PySem.W.kla_obj "<lambda>" (X.env.qual ++ "<lambda>") params body scope cl ((X.mg "__name__").getD .none) cn ctv))
      (fun b u e => Heap.get?_push_of_some _ e) (Nat.le_refl _) (lamOC_ok (Heap.get?_push_size _ rfl))
    have nF := I1.hok.fresh (a := hh.objs.size) (Nat.le_refl _)
    exact ⟨.ref hh.objs.size, _, I2, rfl, h hh.objs.size _ (.of (Ex.new nF)) (hT.ext (Ex.new nF)) (I.hok.fresh hsz) ⟨cn, upd_same, (Ex.new nF) _ _ hco⟩⟩
/-- one name is captured -/
theorem pe_lamC1 {T : List (Addr × Str)} {c P cc : Addr} {y : Str} {params : Arguments} {body : Expr} {scope : Scope} {pos : Pos} (TB : TabB X.base X.mg c P) (hcode : X.env.code = .ref c) (hm : (P, X.env.qual ++ "<lambda>") ∈ T) (hu : ∀ p ∈ T, p.1 = P → p.2 = X.env.qual ++ "<lambda>")
    (hdef : defaultsOf params X.env = ([], [])) (hcl : cloFrom X.env.cells scope.names [] = [(y, cc)]) (hc : X.env.cells.lookup y = some cc) (only : ∀ z ∈ scope.names, z.2 = .free → z.1 = y) : PE X (.Lambda params body scope pos) (tLamC T ⟨X.env.qual ++ "<lambda>", params, body, scope⟩ [(y, cc)]) :=
  pe_lamC TB hcode hm hu hdef hcl fun z hz e => ⟨cc, by rw [only z hz e]; exact hc⟩
end
/-- a def that makes lambdas, by its code object, called where nothing is being shown -/
theorem fnGC {P : Program} {w : World} {K : PySem.W.Frag} {mg : Str → Option Value} {base : Heap} {x : Str} {st : Stmt} {N ps : List Str} {k : Nat} {sp : Sp} {f c : Addr} {oc kV doc pm ct : Value} {od an : Option Addr} {osl : Array (Option Value)}
    (lk : K.lookup f = some ⟨oc, od, .func (PySem.W.fnOf x x (defArgs st) (defBody st) (defScope st) .none kV doc pm an (.ref c) ct), osl⟩) (hcd : PySem.W.codeIn K (.ref c) x = true) (S : FnScope N ps (defScope st)) (len : ∀ vs H Q E, sp vs H Q E → vs.length = ps.length)
    (hbody : ∀ (A : Around) (outer : List Env) (s : Shared) (H : Hp) (vs : List V) (Q : VK) (E : XK), Room k (A.deeper (envOfC x (defScope st) s.heap.objs.size f (.ref c))) → A.guards = some [] → sp vs H Q E →
      ∃ t, PSs (cxOf CX0 P w K mg base N x (defScope st) f (.ref c) A outer s H E).nox (defBody st) t ∧ t { nx := fun _ H' => Q .non H', rt := Q } (L2.start N vs) H) : FnG P w K mg base (k + 1) f (PySem.W.fnOf x x (defArgs st) (defBody st) (defScope st) .none kV doc pm an (.ref c) ct) ps sp := by
  refine ⟨len, fun A outer s H args us vs Q E room gd env0 bnd rel hsp => ?_⟩
  have inH : K.In s.heap := env0.mod.kin.keeps fun b o e => (env0.bs b o e).1
  have nl : s.heap.NoLimit := env0.mod.nolimit.keeps fun b o e => (env0.bs b o e).1
  refine codeAny_call_function room.depth (inH _ _ lk) rfl S.co S.gen rfl (PySem.W.codeRec_of inH hcd) (bnd _ _ _ _ (wpAny_newFunctionEnv_cells S.kind ?_ ?_))
  · rintro ⟨n, v⟩ hy
    exact (S.par n (List.of_mem_zip hy).1).imp id fun q => ⟨q, PySem.W.cellsFrom_some _ _ _ (.inl q)⟩
  · rintro env rfl sE xE
    refine ⟨nl.keeps xE.toInCall.keep, codeAny_func ?_⟩
    obtain ⟨t, ht, hq⟩ := hbody A outer s H vs Q E (room.deeper _) gd hsp
    have I0 : Inv (cxOf CX0 P w K mg base N x (defScope st) f (.ref c) A outer s H E) [] (L2.start N vs) H sE := inv_start S room.hd env0 (len _ _ _ _ hsp) rel xE
    refine wpAny_mono (ht.nox.run [] sE (L2.start N vs) H _ I0 hq) (fun fl sF hs => ?_) (fun e sF hs => hs)
    match fl, hs with
    | .ret u, ⟨v, σ', H', J, rv, q⟩ => exact ⟨v, H', J.os, J.bare, J.base, J.hok, rv, q⟩
    | .next, ⟨σ', H', J, q⟩ => exact ⟨V.non, H', J.os, J.bare, J.base, J.hok, rfl, q⟩
    | .brk, ⟨_, _, _, q⟩ => exact False.elim q
    | .cont, ⟨_, _, _, q⟩ => exact False.elim q
end Oa
/-! lists copied, spoilt, put; what is asked and answers a pair of new lists -/
namespace Oa
open PySem PySem.Spec PyProof.Rows L2 Evl
theorem pe_never {X : Cx} {e : Expr} : PE X e (fun _ _ _ => False) := ⟨fun pins s σ H Q I h => h.elim⟩
section
variable {K : PySem.W.Frag} {σ : L2.St} {H H' : Hp} {ta tb tc te tx tl : TE} {t u : TT} {x y z v : V} {D : Ends} {tu tw tz : TS} {g : TG} {xs ys : List V} {d : PyData} {ds : List PyData}
/-- [a new list for x in a list of one thing] -/
theorem lc_one {a : Addr} {j : Nat} {vs : List Nat} (h : Ev tl σ H (.ref a)) (hx : SqL K H a [x]) (hw : ∀ x, wipe ((wipe σ vs).set j (some x)) vs = wipe σ vs) (he : ∀ H1, Ex H H1 → EvL te ((wipe σ vs).set j (some x)) H1 ys) :
    ∀ H0, Ex H H0 → ∀ Q : VK, (∀ p r H2, H0 p = none → H0 r = none → p ≠ r → Ex H0 H2 → H2 p = some (.lst [.ref r]) → H2 r = some (.lst ys) → Q (.ref p) H2) → tLc (iList K tl) (gName j) tYes te vs σ H0 Q := fun H0 e Q q =>
  h H0 e _ fun H1 e1 => ⟨a, rfl, ⟨[x], ex_l (e.trans e1) hx⟩, fun Dl hD =>
    lc_list (xs := [x]) (fun i H2 => Ex H1 H2 ∧ ((i = 0 ∧ H2 Dl = some (.lst [])) ∨ (i = 1 ∧ ∃ r, H1 r = none ∧ Dl ≠ r ∧ H2 Dl = some (.lst [.ref r]) ∧ H2 r = some (.lst ys)))) ⟨Ex.new hD, .inl ⟨rfl, upd_same⟩⟩ (fun i H2 _ p => ex_l (e.trans (e1.trans p.1)) hx)
      (fun i x2 H2 hi p => ⟨hw x2, by
        have i0 : i = 0 := by
          have := (List.getElem?_eq_some_iff.mp hi).1
          have hl : ([x] : List V).length = 1 := rfl
          omega
        subst i0
        obtain rfl : x = x2 := Option.some.inj hi
        obtain ⟨p1, p2⟩ := p
        have p3 : H2 Dl = some (.lst []) := by
          rcases p2 with ⟨_, h⟩ | ⟨h, _⟩
          · exact h
          · omega
        show te ((wipe σ vs).set j (some x)) H2 fun y H4 => ∃ acc, H4 Dl = some (.lst acc) ∧ acc.length < sizeLine ∧ _
        refine he H2 (e.trans (e1.trans p1)) H2 (Ex.refl _) _ fun r H4 nr e4 hr => ⟨[], e4 _ _ p3, sz_lt (show 0 < 100000 by decide), Ex.mut (p1.trans e4) hD, .inr ⟨rfl, r, fresh_back p1 nr, ?_, upd_same, ?_⟩⟩
        · exact ne_of_none p3 nr
        · rw [upd_ne (ne_of_none p3 nr).symm]
          exact hr⟩) (fun H2 p => by
        obtain ⟨p1, p2⟩ := p
        rcases p2 with ⟨h, _⟩ | ⟨_, r, h1, h2, h3, h4⟩
        · exact nomatch (show (1 : Nat) = 0 from h)
        · exact q Dl r H2 (fresh_back e1 hD) (fresh_back e1 h1) h2 (e1.trans p1) h3 h4)⟩
/-- return (a new list, what is there) -/
theorem rt_pair {us : List V} (h : EvL ta σ H us) (h2 : ∀ H1, Ex H H1 → Ev tb σ H1 v) (k : ∀ fx t H1, H fx = none → Ex H H1 → H1 fx = some (.lst us) → H1 t = none → D.rt (.ref t) (upd H1 t (.tup [.ref fx, v]))) : tRet (tTup (tCons ta (tCons tb tNil))) D σ H :=
  h H (Ex.refl _) _ fun p H1 np e1 hp => h2 H1 e1 H1 (Ex.refl _) _ fun H2 e2 => ⟨sz_of (show 2 ≤ 100000 by decide), fun t nt => k p t H2 np (e1.trans e2) (e2 _ _ hp) nt⟩
/-- isinstance(x, (list, tuple)) -/
theorem ev_isiT2 {m : String} {b1 b2 b : Bool} (ha : Ev ta σ H x) (ty : ∀ H1, Ex H H1 → TyX K H1 x (.type m)) (k1 : kitB m "list" = some b1) (k2 : kitB m "tuple" = some b2) (hb : (b1 || b2) = b) :
    Ev (tCB (rIsiT K) (tCons ta (tCons (tTup (tCons (tC (.ty "list")) (tCons (tC (.ty "tuple")) tNil))) tNil))) σ H (.bl b) := fun H1 e Q q =>
  ha H1 e _ fun H2 e2 => ⟨sz_of (show 2 ≤ 100000 by decide), fun p np => ⟨x, p, [.ty "list", .ty "tuple"], .type m, [.type "list", .type "tuple"], b, rfl, upd_same, .cons (.ty _) (.cons (.ty _) .nil), ty _ (e.trans (e2.trans (Ex.new np))), by
    refine kitAny_cons (kit_ty k1) (fun h1 => kitAny_cons (kit_ty k2) (fun h2 => ?_) fun h2 => ?_) fun h1 => ?_
    · rw [← hb, h1, h2]; rfl
    · rw [← hb, h2, Bool.or_true]
    · rw [← hb, h1]; rfl, q _ (e2.trans (Ex.new np))⟩⟩
end
/-- an int or a bool -/
def FlatX (x : V) : Prop := (∃ i, x = .int i) ∨ ∃ b, x = .bl b
theorem flat_ty {K : PySem.W.Frag} {x : V} (h : FlatX x) : ∃ m, (∀ H : Hp, TyX K H x (.type m)) ∧ kitB m "list" = some false ∧ kitB m "tuple" = some false := by
  rcases h with ⟨i, rfl⟩ | ⟨b, rfl⟩
  · exact ⟨"int", fun H => .base (.int i), by decide +kernel, by decide +kernel⟩
  · exact ⟨"bool", fun H => .base (.bl b), by decide +kernel, by decide +kernel⟩
/-- flat data -/
def FlatD : PyData → Prop
  | .int _ => True
  | .bool _ => True
  | _ => False
/-- what a door's def or lambda promises: handed a list of one row it answers a new pair of new lists; the first holds A of the row -/
def spAsk (K : PySem.W.Frag) (A : List Int → List PyData) (Ok : List Int → Prop) : Sp := fun vs H Q _ => ∃ (hp hr : Addr) (ns : List Int), vs = [.ref hp] ∧ SqL K H hp [.ref hr] ∧ SqL K H hr (ns.map V.int) ∧ Ok ns ∧
  ∀ t fx tl us ws H2, H t = none → H fx = none → H tl = none → Ex H H2 → H2 t = some (.tup [.ref fx, .ref tl]) → H2 fx = some (.lst us) → DpAll K H2 us (A ns) → H2 tl = some (.lst ws) → ws.length ≤ 1000 → (∀ u ∈ ws, FlatX u) → Q (.ref t) H2
theorem spAsk_len {K : PySem.W.Frag} {A : List Int → List PyData} {Ok : List Int → Prop} : ∀ vs H Q E, spAsk K A Ok vs H Q E → vs.length = 1 := fun vs H Q E h => by
  obtain ⟨_, _, _, rfl, _⟩ := h
  rfl
/-- _law_two(..) of a new list -/
def sp_two : Sp := fun vs H Q _ => ∃ x : V, vs = [x] ∧ ∀ t H2, H t = none → Ex H H2 → H2 t = some (.tup [x, x]) → Q (.ref t) H2
theorem ask_two {K : PySem.W.Frag} {σ : L2.St} {H : Hp} {te : TE} {E : XK} {Q : VK} {us : List V} {ds : List PyData} (h : EvL te σ H us) (hd : ∀ H2, DpAll K H2 us ds) (hl : us.length ≤ 1000) (hf : ∀ u ∈ us, FlatX u)
    (q : ∀ t fx tl us ws H2, H t = none → H fx = none → H tl = none → Ex H H2 → H2 t = some (.tup [.ref fx, .ref tl]) → H2 fx = some (.lst us) → DpAll K H2 us ds → H2 tl = some (.lst ws) → ws.length ≤ 1000 → (∀ u ∈ ws, FlatX u) → Q (.ref t) H2) :
    tCall sp_two [] E (tCons te tNil) σ H Q :=
  h H (Ex.refl _) _ fun p H1 np e1 hp => ⟨.ref p, rfl, fun t H2 nt e2 ht => q t p p us us H2 (fresh_back e1 nt) np np (e1.trans e2) ht (e2 _ _ hp) (hd _) (e2 _ _ hp) hl hf⟩
/-- x[0] of a list of one row -/
theorem ev_first {K : PySem.W.Frag} {σ : L2.St} {H : Hp} {te : TE} {a r : Addr} (h : Ev te σ H (.ref a)) (hs : SqL K H a [.ref r]) : Ev (tOp (rIxL K) te (tC (.int 0))) σ H (.ref r) := ev_op h ev_c (rv_ixL hs rfl)
theorem flat_ints2 (ns : List Int) : ∀ u ∈ ns.map V.int, FlatX u := fun u hu => by
  obtain ⟨i, _, rfl⟩ := List.mem_map.mp hu
  exact .inl ⟨i, rfl⟩
theorem ints_same (ns : List Int) : given (ns.map V.int).length (fun _ => true) (fun i => V.int (ns.getD i 0)) = ns.map V.int := by
  rw [given_all, List.length_map]
  exact map_getD (fun n => V.int n) ns
section
variable {P : Program} {w : World} {K : PySem.W.Frag} {mg : Str → Option Value} {base : Heap} {k i : Nat} {σ : L2.St} {H : Hp} {te : TE} {E : XK} {D : Ends} {tu tz : TS} {g : TG} {f : Addr} {A : List Int → List PyData} {Ok : List Int → Prop} {ns : List Int}
theorem q_asgR {j : Nat} (h : te σ H fun v H1 => tz D (σ.set j (some v)) H1) : tSeq (tAsg te (gName j)) tz D σ H := h
theorem q_asgG (h : te σ H fun v H1 => g v σ H1 (tz D)) : tSeq (tAsg te g) tz D σ H := h
theorem q_dropR (h : te σ H fun _ H1 => tz D σ H1) : tSeq (tDrop te) tz D σ H := h
/-- what evaluates to a list of the one row ns -/
def EvR (K : PySem.W.Frag) (te : TE) (σ : L2.St) (H : Hp) (ns : List Int) : Prop := ∀ H1, Ex H H1 → ∀ Q : VK, (∀ hp hr H2, Ex H1 H2 → SqL K H2 hp [.ref hr] → SqL K H2 hr (ns.map V.int) → Q (.ref hp) H2) → te σ H1 Q
theorem er_var {hp hr : Addr} (h : Ev te σ H (.ref hp)) (h1 : SqL K H hp [.ref hr]) (h2 : SqL K H hr (ns.map V.int)) : EvR K te σ H ns := fun H1 e Q q => h H1 e _ fun H2 e2 => q hp hr H2 e2 (ex_l (e.trans e2) h1) (ex_l (e.trans e2) h2)
/-- _law_ask(..) -/
theorem ev_ask (hσ : σ[i]? = some (some (.ref f))) (hA : Ask P w K mg base k H f (spAsk K A Ok)) (h : EvR K te σ H ns) (hok : Ok ns) :
    ∀ H1, Ex H H1 → ∀ Q : VK, (∀ t fx tl us ws H2, H1 t = none → H1 fx = none → H1 tl = none → Ex H1 H2 → H2 t = some (.tup [.ref fx, .ref tl]) → H2 fx = some (.lst us) → DpAll K H2 us (A ns) → H2 tl = some (.lst ws) → ws.length ≤ 1000 → (∀ u ∈ ws, FlatX u) → Q (.ref t) H2) →
      tCallA P w K mg base k i E (tCons te tNil) σ H1 Q := fun H1 e Q q =>
  ⟨f, spAsk K A Ok, hσ, hA.mono e, h H1 e _ fun hp hr H2 e2 s1 s2 => ⟨hA.mono (e.trans e2), hp, hr, ns, rfl, s1, s2, hok, fun t fx tl us ws H3 nt nfx ntl e3 ht hfx hd htl hl hf => q t fx tl us ws H3 (fresh_back e2 nt) (fresh_back e2 nfx) (fresh_back e2 ntl) (e2.trans e3) ht hfx hd htl hl hf⟩⟩
/-- _law_ask(..)[0] -/
theorem ed_ask (hσ : σ[i]? = some (some (.ref f))) (hA : Ask P w K mg base k H f (spAsk K A Ok)) (h : EvR K te σ H ns) (hok : Ok ns) : EvD K (tOp (rIxT K) (tCallA P w K mg base k i E (tCons te tNil)) (tC (.int 0))) σ H (.list (A ns)) := fun H1 e Q q =>
  ev_ask hσ hA h hok H1 e _ fun t fx tl us ws H2 nt nfx ntl e2 ht hfx hd htl hl hf => ⟨t, _, 0, .ref fx, rfl, rfl, st_of ht, rfl, q (.ref fx) H2 e2 (.lst (sq_of hfx) hd)⟩
/-- for a, b in ((x1, y1), (x2, y2)) -/
theorem q_forTA {ta : TA} {x1 y1 x2 y2 : V} {j1 j2 : Nat} (h : ∀ Q : List V → Hp → Prop, (∀ a1 a2 H2, Ex H H2 → H2 a1 = some (.tup [x1, y1]) → H2 a2 = some (.tup [x2, y2]) → Q [.ref a1, .ref a2] H2) → ta σ H Q) (B : Hp → Hp) (hT : ∀ H1, Ex H H1 → ∀ a xs, H1 a = some (.tup xs) → (B H1) a = some (.tup xs)) (Pv : Hp → Nat → L2.St → Hp → Prop) (h0 : ∀ H1, Ex H H1 → Pv H1 0 σ H1) (hE : ∀ H1 m σ' H', Pv H1 m σ' H' → Ex (B H1) H')
    (hs1 : ∀ H1 σ' H', Ex H H1 → Pv H1 0 σ' H' → tu { D with nx := Pv H1 1, ct := Pv H1 1, bk := tz D } ((σ'.set j1 (some x1)).set j2 (some y1)) H') (hs2 : ∀ H1 σ' H', Ex H H1 → Pv H1 1 σ' H' → tu { D with nx := Pv H1 2, ct := Pv H1 2, bk := tz D } ((σ'.set j1 (some x2)).set j2 (some y2)) H')
    (hd : ∀ H1 σ' H', Ex H H1 → Pv H1 2 σ' H' → tz D σ' H') :
    tSeq (tFor (iTup K (tTup ta)) (gTup K 2 (gCons (gName j1) (gCons (gName j2) gNil))) tu) tz D σ H :=
  h _ fun a1 a2 H2 e2 g1 g2 => ⟨sz_of (show 2 ≤ 100000 by decide), fun tt nt => by
    have eH : Ex H (upd H2 tt (.tup [.ref a1, .ref a2])) := e2.trans (Ex.new nt)
    have k1 : (upd H2 tt (.tup [.ref a1, .ref a2])) a1 = some (.tup [x1, y1]) := (Ex.new nt) _ _ g1
    have k2 : (upd H2 tt (.tup [.ref a1, .ref a2])) a2 = some (.tup [x2, y2]) := (Ex.new nt) _ _ g2
    have k3 : (upd H2 tt (.tup [.ref a1, .ref a2])) tt = some (.tup [.ref a1, .ref a2]) := upd_same
    revert eH k1 k2 k3
    generalize upd H2 tt (.tup [.ref a1, .ref a2]) = HH
    intro eH k1 k2 k3
    refine ⟨tt, rfl, ⟨_, st_of k3⟩, for_tup (D := { D with nx := tz D }) (xs := [.ref a1, .ref a2]) (Pv HH) (h0 HH eH) (fun m σ' H' _ hP => st_of (hE HH m σ' H' hP _ _ (hT _ eH _ _ k3))) (fun m x σ' H' hx hP => ?_) (fun σ' H' hP => hd HH σ' H' eH hP)⟩
    have hm : m < 2 := (List.getElem?_eq_some_iff.mp hx).1
    match m, hm, hx, hP with
    | 0, _, hx, hP =>
      obtain rfl : V.ref a1 = x := Option.some.inj hx
      exact ⟨a1, _, rfl, st_of (hE HH 0 σ' H' hP _ _ (hT _ eH _ _ k1)), rfl, _, _, rfl, _, _, rfl, rfl, hs1 HH σ' H' eH hP⟩
    | 1, _, hx, hP =>
      obtain rfl : V.ref a2 = x := Option.some.inj hx
      exact ⟨a2, _, rfl, st_of (hE HH 1 σ' H' hP _ _ (hT _ eH _ _ k2)), rfl, _, _, rfl, _, _, rfl, rfl, hs2 HH σ' H' eH hP⟩⟩
/-- two tuples of two, as arguments -/
theorem ta_22 {t1 t2 t3 t4 : TE} {x1 y1 x2 y2 : V} (h1 : Ev t1 σ H x1) (h2 : Ev t2 σ H y1) (h3 : Ev t3 σ H x2) (h4 : Ev t4 σ H y2) (Q : List V → Hp → Prop) (q : ∀ a1 a2 H2, Ex H H2 → H2 a1 = some (.tup [x1, y1]) → H2 a2 = some (.tup [x2, y2]) → Q [.ref a1, .ref a2] H2) :
    tCons (tTup (tCons t1 (tCons t2 tNil))) (tCons (tTup (tCons t3 (tCons t4 tNil))) tNil) σ H Q := by
  show tTup (tCons t1 (tCons t2 tNil)) σ H fun x H1 => tTup (tCons t3 (tCons t4 tNil)) σ H1 fun y H2 => Q [x, y] H2
  exact eu_tup (ea_cons h1 (ea_cons h2 ea_nil)) (show 2 ≤ 100000 by decide) H (Ex.refl _) _ fun a1 H1 n1 e1 g1 => eu_tup (ea_cons h3 (ea_cons h4 ea_nil)) (show 2 ≤ 100000 by decide) H1 e1 _ fun a2 H2 n2 e2 g2 => q a1 a2 H2 (e1.trans e2) (e2 _ _ g1) g2
end
theorem shw_b1 (b : Bool) : Shw (.list [.bool b]) := by
  cases b <;> exact ⟨by decide +kernel, by decide +kernel, by decide +kernel, by decide +kernel⟩
theorem shw_b2 : Shw (.list [.bool true, .bool true]) := ⟨by decide +kernel, by decide +kernel, by decide +kernel, by decide +kernel⟩
section
variable {K : PySem.W.Frag} {T : List (Addr × Str)} {Pd : Hp → V → Prop} {σ : L2.St} {H : Hp} {te ta tb : TE} {D : Ends} {tz : TS} {ns : List Int}
theorem evx_lamC {l : Lam} {cl : List (Str × Addr)} (hp : ∀ H2 f, LamX.ExtN H H2 → IsLamC H2 f l cl → Pd H2 (.ref f)) : EvX T Pd (tLamC T l cl) σ H := fun H1 e t Q q => ⟨t, fun f H2 e2 t2 nf hf => q _ H2 e2 t2 (hp H2 f (e.trans e2) hf)⟩
theorem er_lst {r : Addr} (h : Ev te σ H (.ref r)) (hs : SqL K H r (ns.map V.int)) : EvR K (tLst (tCons te tNil)) σ H ns := fun H1 e Q q =>
  el_lst (vs := [.ref r]) (ea_cons h ea_nil) (show 1 ≤ 100000 by decide) H1 e _ fun p H2 np e2 hp => q p r H2 e2 (sq_of hp) (ex_l (e.trans e2) hs)
theorem er_lstL (h : EvL te σ H (ns.map V.int)) : EvR K (tLst (tCons te tNil)) σ H ns := fun H1 e Q q =>
  h H1 e _ fun r H2 nr e2 hr => ⟨sz_of (show 1 ≤ 100000 by decide), fun p np => q p r _ (e2.trans (Ex.new np)) (sq_of upd_same) (sq_of ((Ex.new np) _ _ hr))⟩
theorem q_parLL {i j : Nat} {xs ys : List V} (h1 : EvL ta σ H xs) (h2 : EvL tb σ H ys) (k : ∀ p1 p2 H1, H p1 = none → H p2 = none → Ex H H1 → H1 p1 = some (.lst xs) → H1 p2 = some (.lst ys) → tz D ((σ.set i (some (.ref p1))).set j (some (.ref p2))) H1) : tSeq (tPar i j (tCons ta (tCons tb tNil))) tz D σ H :=
  h1 H (Ex.refl _) _ fun p1 H1 n1 e1 a1 => h2 H1 e1 _ fun p2 H2 n2 e2 a2 => ⟨.ref p1, .ref p2, rfl, k p1 p2 H2 n1 (fresh_back e1 n2) (e1.trans e2) (e2 _ _ a1) a2⟩
theorem dpA_row {vs : List V} {xss : List (List Int)} (h : DpAll K H vs (dRows xss)) {k : Nat} {r : List Int} (hk : xss[k]? = some r) : ∃ c, vs[k]? = some (.ref c) ∧ SqL K H c (r.map V.int) := by
  have hl : vs.length = xss.length := by rw [dpA_len h, dRows_len]
  have hlt : k < vs.length := by rw [hl]; exact (List.getElem?_eq_some_iff.mp hk).1
  have hv : vs[k]? = some vs[k] := List.getElem?_eq_getElem hlt
  obtain ⟨d, h1, h2⟩ := dpA_at h hv
  obtain ⟨r2, h3, rfl⟩ := dRows_get h1
  obtain rfl : r2 = r := Option.some.inj (h3.symm.trans hk)
  obtain ⟨c, hc, hs⟩ := dp_inv h2
  exact ⟨c, by rw [hv, hc], hs⟩
theorem IsComes.extN {CC : Addr} {H H' : Hp} {x p : Addr} {ns : List Int} (e : LamX.ExtN H H') (h : IsComes CC H x p ns) : IsComes CC H' x p ns := by
  obtain ⟨⟨dx, h1⟩, h2⟩ := h
  exact ⟨⟨dx, e _ _ h1 fun ps z => nomatch z⟩, e _ _ h2 fun ps z => nomatch z⟩
end
end Oa
/-! the end of a law that makes lambdas itself, called where nothing is being shown -/
namespace Oa
open PySem PySem.Spec PyProof.Rows L2 Evl
abbrev tabE : Obj := { cls := .none, data := .fields #[] }
section
variable {P : Program} {w : World} {K : PySem.W.Frag} {mg mb : Str → Option Value} {k : Nat} {fa a c Pt : Addr} {fd : FuncData} {x : Str} {sp : Sp} {sT : Shared} {vs : List Value} {ns : List Int}
/-- what is tracked at the start: the table, and the script where it is not written -/
def OnlyT (K : PySem.W.Frag) (a Pt : Addr) (H : Hp) : Prop := H Pt = some (.tbl #[]) ∧ ∀ b u, H b = some u → b = Pt ∨ (b = a ∧ K.lookup a = none ∧ ∃ oS xs, u = .frz oS (.lst xs))
theorem end_ofT {H : Hp} (hO : OnlyT K a Pt H) (hok : HOk P w H sT.heap) (hT : sT.heap.get? Pt = some tabE) (hC : isCodeTable sT.heap Pt) {r : Result} {s' : Shared} (h : CR CX0 [] P w H sT (fun v _ => v = .bl true) (fun _ _ _ => False) r s') : lawEnd sT r s' := by
  match r, h with
  | .error e, h => exact False.elim h
  | .ok .next, h => exact False.elim h
  | .ok .brk, h => exact False.elim h
  | .ok .cont, h => exact False.elim h
  | .ok (.ret u), ⟨v, HE, os, bare, un, hokE, rel, q⟩ =>
    have q' : v = .bl true := q
    subst q'
    obtain rfl : u = Value.bool true := rel
    have all : ∀ b o, sT.heap.get? b = some o → s'.heap.get? b = some o ∨ (b = Pt ∧ o = tabE ∧ ∃ more : Array Value, s'.heap.get? Pt = some { cls := .none, data := .fields (#[] ++ more) }) := fun b o e => by
      cases z : H b with
      | none => exact .inl (un.keep b o e z (fun m => nomatch (show b ∈ ([] : List Addr) from m)) (fun m => nomatch m))
      | some t =>
        rcases hO.2 b t z with zb | ⟨_, _, oS, xs, rfl⟩
        · subst zb
          obtain ⟨more, z2⟩ := un.tbls b #[] hO.1
          exact .inr ⟨rfl, Option.some.inj (e.symm.trans hT), more, hokE b _ z2⟩
        · obtain ⟨f1, _⟩ := hok b _ z
          obtain ⟨f2, _⟩ := hokE b _ (un.frzs b oS _ z)
          obtain rfl : o = oS := Option.some.inj (e.symm.trans f1)
          exact .inl f2
    refine ⟨rfl, ⟨fun b o e => ?_, fun b o e => ?_⟩, os, bare⟩
    · rcases all b o e with z | ⟨rfl, rfl, more, z⟩
      · exact .inl z
      · exact .inr (.inl ⟨hC, rfl, #[], more, rfl, z⟩)
    · rcases all b o e with z | ⟨rfl, rfl, more, z⟩
      · exact ⟨o, z⟩
      · exact ⟨_, z⟩
theorem lawTG (KX : K.In sT.heap) (hns : sT.heap.Ns mainGlobals mg) (hb : sT.heap.Ns builtinsNs mb) (hbb : ∀ x : Str, x ≠ "__name__" → mb x = bootBuiltins x) (hlim : sT.heap.NoLimit) (hg : sT.gens = #[]) (hT : sT.heap.get? Pt = some tabE) (nT : K.lookup Pt = none) (hC : PySem.W.CodeHd sT.heap c Pt)
    (hbm : ∃ (bm : Addr) (ob : Obj), mg "__builtins__" = some (.ref bm) ∧ bm ≠ builtinsNs ∧ sT.heap.get? bm = some ob ∧ ob.cls = .type "module" ∧ ob.dict = some builtinsNs ∧ ob.data = .plain)
    (ha : sT.heap.get? a = some { cls := .type "list", data := .seq vs.toArray }) (hi : IntsAre vs ns) (hl : ns.length ≤ sizeLine) (hr : Room k callerA)
    (F : ∀ base : Heap, K.In base → base.Ns mainGlobals mg → LamX.TabB base mg c Pt → FnG P w K mg base k fa fd [x] sp) (hbind : ∀ (s : Shared) (u : Value), BindsTo s fd ⟨[u], []⟩ [(x, u)])
    (hsp : ∀ H : Hp, H Pt = some (.tbl #[]) → SqL K H a (ns.map V.int) → sp [.ref a] H (fun v _ => v = .bl true) fun _ _ _ => False) :
    codeAny (model P w) callerA (.call (.ref fa) ⟨[.ref a], []⟩) (lawEnd sT) sT := by
  have rv := vals_ints hi
  have naP : a ≠ Pt := fun z => by
    rw [z, hT] at ha
    exact nomatch (congrArg Obj.cls (Option.some.inj ha))
  have main : ∀ H : Hp, OnlyT K a Pt H → SqL K H a (ns.map V.int) → HOk P w H sT.heap → codeAny (model P w) callerA (.call (.ref fa) ⟨[.ref a], []⟩) (lawEnd sT) sT := by
    intro H hO hS hok
    have free : ∀ {b : Addr} {o : Obj}, sT.heap.get? b = some o → o.data ≠ .fields #[] → (∀ us n, o.data ≠ .seq us n) → H b = none := fun {b o} e d1 d2 => by
      cases q : H b with
      | none => rfl
      | some u =>
        rcases hO.2 b u q with z | ⟨z, _⟩
        · rw [z, hT] at e
          obtain rfl := Option.some.inj e
          exact absurd rfl d1
        · rw [z, ha] at e
          obtain rfl := Option.some.inj e
          exact absurd rfl (d2 _ _)
    have nsB : ∀ {b : Addr} {m : Str → Option Value}, sT.heap.Ns b m → (hidT sT.heap H).Ns b m := fun ⟨o, es, ep, e, d, r⟩ => ⟨o, es, ep, hidT_get e (free e (by rw [d]; exact fun z => nomatch z) (by rw [d]; exact fun _ _ z => nomatch z)), d, r⟩
    have kB : K.In (hidT sT.heap H) := fun b o e => hidT_get (KX b o e) (by
      cases q : H b with
      | none => rfl
      | some u =>
        rcases hO.2 b u q with z | ⟨z, z2, _⟩
        · rw [z, nT] at e; cases e
        · rw [z, z2] at e; cases e)
    have tB : LamX.TabB (hidT sT.heap H) mg c Pt := by
      obtain ⟨oC, us, fl, tf, gs, tg, inn, tx, tt, e1, r1, r2, r3, rr⟩ := hC
      have fr : H c = none := free e1 (by
        rw [r2]
        intro z
        rw [Data.fields.inj z] at r3
        exact nomatch r3) (by rw [r2]; exact fun _ _ z => nomatch z)
      obtain ⟨bm, ob, b1, b2, b3, b4, b5, b6⟩ := hbm
      have nG : mainGlobals ≠ Pt := fun z => by
        obtain ⟨o, es, ep, e, d, _⟩ := hns
        rw [z, hT] at e
        obtain rfl := Option.some.inj e
        exact nomatch d
      refine ⟨⟨oC, us, fl, tf, gs, tg, inn, tx, tt, hidT_get e1 fr, r1, r2, r3, rr⟩, ⟨bm, ob, b1, b2, fun z => ?_, fun z => ?_, hidT_get b3 (free b3 (by rw [b6]; exact fun z => nomatch z) (by rw [b6]; exact fun _ _ z => nomatch z)), b4, b5, b6⟩, nG⟩
      · obtain ⟨o, es, ep, e, d, _⟩ := hns
        rw [z, e] at b3
        obtain rfl := Option.some.inj b3
        rw [b6] at d
        exact nomatch d
      · rw [z, hT] at b3
        obtain rfl := Option.some.inj b3
        exact nomatch b6
    obtain ⟨mc, l1, l2⟩ := hlim
    have e0 : Env0 P w K mg (hidT sT.heap H) callerA [] sT H :=
      { frames := rfl, mod := ⟨kB, nsB hns, ⟨mb, nsB hb, hbb⟩, ⟨mc, nsB l1, l2⟩⟩, bs := fun b o e => of_hidT e, bsz := Nat.le_of_eq (hidT_size _ _), funs := trivial,
        frf := (fun b m => nomatch (show b ∈ ([] : List Addr) from m)), hok := hok, bare := .of_eq hg }
    exact codeAny_mono ((F _ kB (nsB hns) tB).run callerA [] sT H ⟨[.ref a], []⟩ [.ref a] [.ref a] _ _ hr rfl e0 (hbind sT (.ref a)) (.cons rfl .nil) (hsp H hO.1 hS)) fun r s' h => end_ofT hO hok hT (hC.tab hT).isCodeTable h
  let HT : Hp := upd (fun _ => none) Pt (.tbl #[])
  have hT1 : HT Pt = some (.tbl #[]) := upd_same
  have hT0 : ∀ b, b ≠ Pt → HT b = none := fun b q => upd_ne q
  have okT : ∀ (H : Hp) (u : HO), HT Pt = some u → ObjOk P w H sT.heap Pt u := fun H u z => by
    rw [hT1] at z
    obtain rfl := Option.some.inj z
    exact hT
  cases hk : K.lookup a with
  | some o =>
    have e := KX a o hk
    rw [ha] at e
    obtain rfl := Option.some.inj e
    refine main HT ⟨hT1, fun b u z => ?_⟩ (.inr ⟨_, vs.toArray, _, hk, rfl, rfl, rfl, ?_, ?_⟩) (fun b u z => ?_)
    · by_cases q : b = Pt
      · exact .inl q
      · rw [hT0 b q] at z; cases z
    · rw [List.size_toArray, hi.length]; exact hl
    · exact rv
    · by_cases q : b = Pt
      · rw [q] at z ⊢; exact okT _ u z
      · rw [hT0 b q] at z; cases z
  | none =>
    let oS : Obj := { cls := .type "list", data := .seq vs.toArray }
    let HS : Hp := upd HT a (.frz oS (.lst (ns.map V.int)))
    have h1 : HS a = some (.frz oS (.lst (ns.map V.int))) := upd_same
    have h0 : ∀ b, b ≠ a → HS b = HT b := fun b q => upd_ne q
    refine main HS ⟨(h0 Pt naP.symm).trans hT1, fun b u z => ?_⟩ (.inl (.inr ⟨oS, h1⟩)) (fun b u z => ?_)
    · by_cases q : b = a
      · rw [q, h1] at z
        obtain rfl := Option.some.inj z
        exact .inr ⟨q, hk, oS, _, rfl⟩
      · rw [h0 b q] at z
        by_cases q2 : b = Pt
        · exact .inl q2
        · rw [hT0 b q2] at z; cases z
    · by_cases q : b = a
      · rw [q, h1] at z
        obtain rfl := Option.some.inj z
        rw [q]
        exact ⟨ha, by rw [List.length_map]; exact hl, vs, _, rv, ha⟩
      · rw [h0 b q] at z
        by_cases q2 : b = Pt
        · rw [q2] at z ⊢; exact okT _ u z
        · rw [hT0 b q2] at z; cases z
end
/-- what is known of the law's promise at the head's heap -/
def LawAtG (l : PySem.W.OpenLaw) (w : World) (K : PySem.W.Frag) (k n : Nat) (x : Str) (mg : Str → Option Value) (fa : Addr) (h : Heap) : Prop :=
  ∃ (fd : FuncData) (c Pt : Addr) (sp : Sp), h.get? Pt = some tabE ∧ K.lookup Pt = none ∧ PySem.W.CodeHd h c Pt ∧ (∀ (s : Shared) (u : Value), BindsTo s fd ⟨[u], []⟩ [(x, u)]) ∧
    (∀ (H : Hp) (a : Addr) (ns : List Int), ns.length ≤ n → (∀ z ∈ ns, Builtin.Int.intBits z ≤ 1048576) → H Pt = some (.tbl #[]) → SqL K H a (ns.map V.int) → sp [.ref a] H (fun v _ => v = .bl true) fun _ _ _ => False) ∧
    ∀ base : Heap, K.In base → base.Ns mainGlobals mg → LamX.TabB base mg c Pt → FnG l.prog w K mg base k fa fd [x] sp
theorem walk_ofG {l : PySem.W.OpenLaw} {n k : Nat} {q : Program} {loose : List Str} {XP : (Str → Option Value) → Heap → Prop} {YP : World → Heap → Prop} {d : DefRec} {K : Params → PySem.W.Frag} {x : Str} {names : List Str}
    (hn : l.most = some n) (hn2 : n ≤ sizeLine) (hdf : d.params.defaults = []) (hr : Room k callerA) (hrec : ∀ x ∈ names, ((recsOf q).any fun e => e.name == x) = true) (hY : ∀ (w : World) (h : Heap), YP w h → (K w.params).In h)
    (F : ∀ (w : World) (mg : Str → Option Value) (fa : Addr) (h : Heap), (K w.params).In h → h.Ns mainGlobals mg → mg d.name = some (.ref fa) → (∀ x ∈ names, OwnT (K w.params) mg h x) → LawAtG l w (K w.params) k n x mg fa h) :
    PySem.W.WalkO q loose XP YP l.row.toRowW d [] (fun f vs => PySem.call f vs) :=
  Att.attach_callB hn hdf fun w s0 sT mg mb fa o pm cd doc a vs ns G Y ho hd hcd hmg hobj hints hlen hbits hg => by
    have KX := hY w _ Y
    have own : ∀ x ∈ names, OwnT (K w.params) mg sT.heap x := fun x hx => ownT_of KX (hrec x hx) G.T.tab
    obtain ⟨fd, c, Pt, sp, hT, nT, hC, hb, hsp, hF⟩ := F w mg fa _ KX G.T.g hmg own
    exact lawTG KX G.T.g G.T.b G.T.builtins G.T.nolimit hg hT nT hC G.T.bmain hobj hints (Nat.le_trans hlen hn2) hr hF hb fun H hH hS => hsp H a ns hlen hbits hH hS
end Oa
namespace Oa
open PySem PySem.Spec PyProof.Rows L2 Evl
def topS (i : Nat) : Stmt := PySem.Challenge.pw_oftenahead_k08_whole_anew.main.body.getD i (.Pass ⟨0, 0, 0, 0⟩)
/-- the built-in names, the module's numbers -/
structure Gs (mg : Str → Option Value) : Prop where
  n_all : mg "all" = none
  n_any : mg "any" = none
  n_bool : mg "bool" = none
  n_enumerate : mg "enumerate" = none
  n_int : mg "int" = none
  n_isinstance : mg "isinstance" = none
  n_len : mg "len" = none
  n_list : mg "list" = none
  n_range : mg "range" = none
  n_set : mg "set" = none
  n_str : mg "str" = none
  n_sum : mg "sum" = none
  n_tuple : mg "tuple" = none
  n_zip : mg "zip" = none
  g_LONGEST : ∃ t, mg "LONGEST" = some (.int 20 t)
section
variable {P : Program} {w : World} {K : PySem.W.Frag} {mg : Str → Option Value} {base : Heap} {CA CC CN : Addr}
/-! ### is_number -/
abbrev st_is_number : Stmt := topS 8
theorem sc_is_number : FnScope ["thing"] ["thing"] (defScope st_is_number) := ⟨rfl, rfl, rfl, by decide +kernel, rfl, by decide +kernel, by decide +kernel⟩

/-- any thing whose type is known -/
def sp_is_number (K : PySem.W.Frag) : Sp := fun vs H Q _ => ∃ (x : V) (m : String) (b1 b2 : Bool), vs = [x] ∧ (∀ H1, Ex H H1 → TyX K H1 x (.type m)) ∧ kitB m "int" = some b1 ∧ kitB m "bool" = some b2 ∧ RetV (.bl (b1 && !b2)) H Q
theorem ev_is_number {K : PySem.W.Frag} {H : Hp} {i : Int} : SpV (sp_is_number K) [.int i] H (.bl true) :=
  spv fun H1 e Q q E => ⟨.int i, "int", true, false, rfl, fun H2 _ => tyx_int i, by decide +kernel, by decide +kernel, q⟩
theorem ev_is_numberX {K : PySem.W.Frag} {H : Hp} {x : V} {m : String} {b1 b2 : Bool} (ty : ∀ H1, Ex H H1 → TyX K H1 x (.type m)) (k1 : kitB m "int" = some b1) (k2 : kitB m "bool" = some b2) : SpV (sp_is_number K) [x] H (.bl (b1 && !b2)) :=
  spv fun H1 e Q q E => ⟨x, m, b1, b2, rfl, fun H2 e2 => ty H2 (e.trans e2), k1, k2, q⟩
theorem d_is_number (G : Gs mg) (T : Ts K mg CA CC CN) (p : Pl K mg "is_number" st_is_number ["thing"])  : Def P w K mg base CX0 1 "is_number" ["thing"] (sp_is_number K) := by
  refine p.ok (k := 0) sc_is_number (fun vs H Q E h => ?_) (fun f cdv A outer s H vs Q E hr h => ?_)
  · obtain ⟨x, m, b1, b2, rfl, _⟩ := h
    rfl
  · obtain ⟨x, m, b1, b2, rfl, ty, k1, k2, q⟩ := h
    refine ⟨_, (pss_one (ps_ret (pe_and (pe_callB call_isi (by rfl) G.n_isinstance (by decide +kernel) (pa_cons (pv 0) (pa_cons (pe_bltn (v := .ty "int") (by rfl) G.n_int (by decide +kernel) rfl) pa_nil))) (pe_one (pe_not (pe_callB call_isi (by rfl) G.n_isinstance (by decide +kernel) (pa_cons (pv 0) (pa_cons (pe_bltn (v := .ty "bool") (by rfl) G.n_bool (by decide +kernel) rfl) pa_nil)))))))), ?_⟩
    exact s_ret (ev_andV (ev_isi (ea_cons (ev_var rfl) (ea_cons ev_c ea_nil)) (fun H1 e => ty H1 e) k1) fun _ => ev_notV (ev_isi (ea_cons (ev_var rfl) (ea_cons ev_c ea_nil)) (fun H1 e => ty H1 e) k2)) fun H2 e2 => q H2 e2
/-! ### check_row -/
abbrev st_check_row : Stmt := topS 9
theorem sc_check_row : FnScope ["row", "sign"] ["row"] (defScope st_check_row) := ⟨rfl, rfl, rfl, by decide +kernel, rfl, by decide +kernel, by decide +kernel⟩

def sp_check_row (K : PySem.W.Frag) : Sp := fun vs H Q _ => ∃ (a : Addr) (ns : List Int), vs = [.ref a] ∧ SqL K H a (ns.map V.int) ∧ ns.length ≤ 20 ∧ RetV .non H Q
theorem ev_check_row {K : PySem.W.Frag} {H : Hp} {a : Addr} {ns : List Int} (h : SqL K H a (ns.map V.int)) (hl : ns.length ≤ 20) : SpV (sp_check_row K) [.ref a] H .non :=
  spv fun H1 e Q q E => ⟨a, ns, rfl, ex_l e h, hl, q⟩
theorem d_check_row (G : Gs mg) (T : Ts K mg CA CC CN) (p : Pl K mg "check_row" st_check_row ["row"]) (D_is_number : Def P w K mg base CX0 1 "is_number" ["thing"] (sp_is_number K)) : Def P w K mg base CX0 2 "check_row" ["row"] (sp_check_row K) := by
  refine p.ok (k := 1) sc_check_row (fun vs H Q E h => ?_) (fun f cdv A outer s H vs Q E hr h => ?_)
  · obtain ⟨a, ns, rfl, _⟩ := h
    rfl
  · obtain ⟨a, ns, rfl, hS, hl, q⟩ := h
    refine ⟨_, (pss_one (ps_if (PW.pt (pw_or (pt_not (pt_val (pe_callB call_isi (by rfl) G.n_isinstance (by decide +kernel) (pa_cons (pv 0) (pa_cons (pe_bltn (v := .ty "list") (by rfl) G.n_list (by decide +kernel) rfl) pa_nil))))) (pw_or (pt_cmpR op_gt (pe_callB call_len_seq (by rfl) G.n_len (by decide +kernel) (pa_cons (pv 0) pa_nil)) (pe_glob (v := .int 20) (by rfl) G.g_LONGEST.choose_spec ⟨_, rfl⟩) (nomark _)) (pw_or1 (pt_not (pt_val (pe_callB (cr_all rfl) (by rfl) G.n_all (by decide +kernel) (pa_cons (pe_lc (own := [("sign", 1)]) (g := (gName 1)) (tt := tYes) (te := (tCall (sp_is_number K) [] _ (tCons (tVar 1) tNil))) rfl sc_check_row.nd (pi_list (pv 0)) (blkOk_by (own := [("sign", 1)]) (N := ["row", "sign"]) (sc := defScope st_check_row) (by decide +kernel)) (fun _ _ _ _ _ => (pg_name (i := 1) sc_check_row.nd rfl (.inl rfl))) (fun _ _ _ _ _ => pts_nil) (fun _ _ _ _ _ => (pe_fn D_is_number (by decide) hr (by rfl) pass0 (pa_cons (pv 1) pa_nil)))) pa_nil))))))))
      (pss_one ps_never)
      pss_nil)), ?_⟩
    refine s_when (b := false) (et_is (et_or (a := false) (et_not (a := true) (et_B (ev_isi (ea_cons (ev_var rfl) (ea_cons ev_c ea_nil)) (fun H1 e => tyx_list (ex_l e hS)) (by decide +kernel)))) fun _ => et_or (a := false) (et_is (et_test (ev_op (ev_len (ev_var rfl) hS) ev_c rv_I0)) ?_) fun _ => et_not (a := true) (et_B ?_)) rfl) (fun hb => nomatch hb) fun _ H1 e1 => q H1 e1
    · rw [List.length_map]; exact decide_eq_false (by omega)
    · exact ev_allL (ev_var rfl) hS (by rw [List.length_map]; omega) (fun x => rfl) fun i x H1 e hi => by
        obtain ⟨n, _, rfl⟩ := int_at hi
        exact ev_call (ea_cons (ev_var rfl) ea_nil) ev_is_number
/-! ### counts_of -/
abbrev st_counts_of : Stmt := topS 10
theorem sc_counts_of : FnScope ["row", "place", "sign"] ["row"] (defScope st_counts_of) := ⟨rfl, rfl, rfl, by decide +kernel, rfl, by decide +kernel, by decide +kernel⟩

def sp_counts_of (K : PySem.W.Frag) : Sp := fun vs H Q _ => ∃ (a : Addr) (ns : List Int), vs = [.ref a] ∧ SqL K H a (ns.map V.int) ∧ ns.length ≤ 1000 ∧ RetL ((countsF ns).map V.int) H Q
theorem el_counts_of {K : PySem.W.Frag} {H : Hp} {a : Addr} {ns : List Int} (h : SqL K H a (ns.map V.int)) (hl : ns.length ≤ 1000) : SpL (sp_counts_of K) [.ref a] H ((countsF ns).map V.int) :=
  spl fun H1 e Q q E => ⟨a, ns, rfl, ex_l e h, hl, q⟩
theorem d_counts_of (G : Gs mg) (T : Ts K mg CA CC CN) (p : Pl K mg "counts_of" st_counts_of ["row"])  : Def P w K mg base CX0 1 "counts_of" ["row"] (sp_counts_of K) := by
  refine p.ok (k := 0) sc_counts_of (fun vs H Q E h => ?_) (fun f cdv A outer s H vs Q E hr h => ?_)
  · obtain ⟨a, ns, rfl, _⟩ := h
    rfl
  · obtain ⟨a, ns, rfl, hS, hl, q⟩ := h
    refine ⟨_, (pss_one (ps_ret (pe_lc (own := [("place", 1), ("sign", 2)]) (g := (gTup K 2 (gCons (gName 1) (gCons (gName 2) gNil)))) (tt := tYes) (te := (tBM K "list" (rCntI K) (tSl (rSlL K) (tVar 0) tNoPart (tPart (tVar 1))) (tCons (tVar 2) tNil))) rfl sc_counts_of.nd (pi_enum (by rfl) G.n_enumerate (pa_cons (pv 0) pa_nil)) (blkOk_by (own := [("place", 1), ("sign", 2)]) (N := ["row", "place", "sign"]) (sc := defScope st_counts_of) (by decide +kernel)) (fun _ _ _ _ _ => (pg_tup rfl (pgs_cons (pg_name (i := 1) sc_counts_of.nd rfl (.inl rfl)) (pgs_cons (pg_name (i := 2) sc_counts_of.nd rfl (.inl rfl)) pgs_nil)))) (fun _ _ _ _ _ => pts_nil) (fun _ _ _ _ _ => (pe_bm PySem.F.plainAttrs_list PySem.F.slot_list_count PySem.F.type_list_count mt_lcount (pe_slice sl_list (pv 0) po_none (po_some (pv 1))) (pa_cons (pv 2) pa_nil)))))), ?_⟩
    refine s_retL (xs := (countsF ns).map V.int) (el_is (el_lcE (fun _ => true) (fun i => .int (((ns.take i).count (ns.getD i 0) : Nat) : Int)) (ev_var rfl) hS (by rw [List.length_map]; omega) (fun x y => rfl) (fun _ _ _ _ _ => et_yes) fun i x H1 e hi _ => ?_) ?_) fun p H1 np e1 hp => q p H1 np e1 hp
    · obtain ⟨n, hn, rfl⟩ := int_at hi
      have e2 : ns.getD i 0 = n := by rw [List.getD_eq_getElem?_getD, hn]; rfl
      rw [e2]
      exact ev_countL (el_is (el_sl (ev_var rfl) eo_none (eo_some (ev_var rfl)) (ex_l e hS)) (cut_to ns i)) (ev_var rfl)
    · rw [given_all, List.length_map]
      unfold countsF
      rw [List.map_map]
      rfl
/-! ### counts -/
abbrev st_counts : Stmt := topS 11
theorem sc_counts : FnScope ["row"] ["row"] (defScope st_counts) := ⟨rfl, rfl, rfl, by decide +kernel, rfl, by decide +kernel, by decide +kernel⟩

def sp_counts (K : PySem.W.Frag) : Sp := fun vs H Q _ => ∃ (a : Addr) (ns : List Int), vs = [.ref a] ∧ SqL K H a (ns.map V.int) ∧ ns.length ≤ 20 ∧ RetL ((countsF ns).map V.int) H Q
theorem el_counts {K : PySem.W.Frag} {H : Hp} {a : Addr} {ns : List Int} (h : SqL K H a (ns.map V.int)) (hl : ns.length ≤ 20) : SpL (sp_counts K) [.ref a] H ((countsF ns).map V.int) :=
  spl fun H1 e Q q E => ⟨a, ns, rfl, ex_l e h, hl, q⟩
theorem d_counts (G : Gs mg) (T : Ts K mg CA CC CN) (p : Pl K mg "counts" st_counts ["row"]) (D_check_row : Def P w K mg base CX0 2 "check_row" ["row"] (sp_check_row K)) (D_counts_of : Def P w K mg base CX0 1 "counts_of" ["row"] (sp_counts_of K)) : Def P w K mg base CX0 3 "counts" ["row"] (sp_counts K) := by
  refine p.ok (k := 2) sc_counts (fun vs H Q E h => ?_) (fun f cdv A outer s H vs Q E hr h => ?_)
  · obtain ⟨a, ns, rfl, _⟩ := h
    rfl
  · obtain ⟨a, ns, rfl, hS, hl, q⟩ := h
    refine ⟨_, (pss_cons (ps_expr (pe_fn D_check_row (by decide) hr (by rfl) pass0 (pa_cons (pv 0) pa_nil)))
      (pss_one (ps_ret (pe_fn D_counts_of (by decide) hr (by rfl) pass0 (pa_cons (pv 0) pa_nil))))), ?_⟩
    refine q_drop (ev_call (ea_cons (ev_var rfl) ea_nil) (ev_check_row hS hl)) fun H1 e1 => ?_
    exact s_retL (el_call (ea_cons (ev_var rfl) ea_nil) (el_counts_of (ex_l e1 hS) (by omega))) fun p H2 np e2 hp => q p H2 (fresh_back e1 np) (e1.trans e2) hp
/-! ### pattern -/
abbrev st_pattern : Stmt := topS 12
theorem sc_pattern : FnScope ["row", "known", "sign"] ["row"] (defScope st_pattern) := ⟨rfl, rfl, rfl, by decide +kernel, rfl, by decide +kernel, by decide +kernel⟩

def sp_pattern (K : PySem.W.Frag) : Sp := fun vs H Q _ => ∃ (a : Addr) (ns : List Int), vs = [.ref a] ∧ SqL K H a (ns.map V.int) ∧ ns.length ≤ 20 ∧ RetL ((patternF ns).map V.int) H Q
theorem el_pattern {K : PySem.W.Frag} {H : Hp} {a : Addr} {ns : List Int} (h : SqL K H a (ns.map V.int)) (hl : ns.length ≤ 20) : SpL (sp_pattern K) [.ref a] H ((patternF ns).map V.int) :=
  spl fun H1 e Q q E => ⟨a, ns, rfl, ex_l e h, hl, q⟩
theorem d_pattern (G : Gs mg) (T : Ts K mg CA CC CN) (p : Pl K mg "pattern" st_pattern ["row"]) (D_check_row : Def P w K mg base CX0 2 "check_row" ["row"] (sp_check_row K)) : Def P w K mg base CX0 3 "pattern" ["row"] (sp_pattern K) := by
  refine p.ok (k := 2) sc_pattern (fun vs H Q E h => ?_) (fun f cdv A outer s H vs Q E hr h => ?_)
  · obtain ⟨a, ns, rfl, _⟩ := h
    rfl
  · obtain ⟨a, ns, rfl, hS, hl, q⟩ := h
    refine ⟨_, (pss_cons (ps_expr (pe_fn D_check_row (by decide) hr (by rfl) pass0 (pa_cons (pv 0) pa_nil)))
      (pss_cons (ps_set (i := 1) sc_pattern.nd rfl (.inr rfl) (pe_lst pa_nil))
      (pss_cons (ps_for PassesOwn.never rfl (pi_list (pv 0)) (pg_name (i := 2) sc_pattern.nd rfl (.inl rfl))
      (pss_one (ps_if (pt_cmpR op_notIn_seq (pv 2) (pv 1) (by rfl))
      (pss_one (ps_expr (pe_bm PySem.F.plainAttrs_list PySem.F.slot_list_append PySem.F.type_list_append mt_append (pv 1) (pa_cons (pv 2) pa_nil))))
      pss_nil)))
      (pss_one (ps_ret (pe_lc (own := [("sign", 2)]) (g := (gName 2)) (tt := tYes) (te := (tBM K "list" (rIndex K) (tVar 1) (tCons (tVar 2) tNil))) rfl sc_pattern.nd (pi_list (pv 0)) (blkOk_by (own := [("sign", 2)]) (N := ["row", "known", "sign"]) (sc := defScope st_pattern) (by decide +kernel)) (fun _ _ _ _ _ => (pg_name (i := 2) sc_pattern.nd rfl (.inl rfl))) (fun _ _ _ _ _ => pts_nil) (fun _ _ _ _ _ => (pe_bm PySem.F.plainAttrs_list PySem.F.slot_list_index PySem.F.type_list_index mt_index (pv 1) (pa_cons (pv 2) pa_nil))))))))), ?_⟩
    refine q_drop (ev_call (ea_cons (ev_var rfl) ea_nil) (ev_check_row hS hl)) fun H1 e1 => ?_
    refine q_asgL (xs := []) (el_lst ea_nil (by decide)) fun l H2 nl e2 hl2 => ?_
    refine q_forLn (ev_var rfl) (ex_l (e1.trans e2) hS) (fun i σ' H' => ∃ y2, σ' = [some (.ref a), some (.ref l), y2] ∧ Ex H1 H' ∧ H' l = some (.lst ((firsts [] (ns.take i)).map V.int)))
      (fun H3 e3 => ⟨none, rfl, e2.trans e3, e3 _ _ hl2⟩) (fun i σ' H' _ hP => by obtain ⟨_, _, eH, _⟩ := hP; exact ex_l (e1.trans eH) hS) (fun i x σ' H' hi hP => ?_) (fun σ' H' hP => ?_)
    · obtain ⟨y2, rfl, eH, hl'⟩ := hP
      obtain ⟨n, hn, rfl⟩ := int_at hi
      have hi' : i < ns.length := (List.getElem?_eq_some_iff.mp hn).1
      have es : firsts [] (ns.take (i + 1)) = if n ∈ firsts [] (ns.take i) then firsts [] (ns.take i) else firsts [] (ns.take i) ++ [n] := by
        rw [List.take_add_one, hn]
        exact firsts_snoc [] _ n
      have hlen := firsts_len [] (ns.take i)
      rw [List.length_take] at hlen
      have hlen' : (firsts [] (ns.take i)).length ≤ 20 := by simp at hlen; omega
      refine s_when (et_test (ev_op (ev_var rfl) (ev_var rfl) (rv_niL (sq_of hl') rfl (flat_ints _)))) (fun hb H3 e3 => ?_) (fun hb H3 e3 => ?_)
      · rw [in_ints] at hb
        have hb' : n ∉ firsts [] (ns.take i) := by simpa using hb
        refine s_app (e3 _ _ hl') (ev_var rfl) (ev_var rfl) (by rw [List.length_map]; omega) fun H4 e4 => ⟨_, rfl, (eH.trans (e3.trans e4)).mut nl, ?_⟩
        rw [upd_same, es, if_neg hb', List.map_append]
        rfl
      · rw [in_ints] at hb
        have hb' : n ∈ firsts [] (ns.take i) := by simpa using hb
        refine ⟨_, rfl, eH.trans e3, ?_⟩
        rw [e3 _ _ hl', es, if_pos hb']
    · obtain ⟨y2, rfl, eH, hl'⟩ := hP
      rw [List.length_map, List.take_length] at hl'
      refine s_retL (xs := (patternF ns).map V.int) (el_is (el_lcL (fun _ => true) (fun i => .int (((firsts [] ns).idxOf (ns.getD i 0) : Nat) : Int)) (ev_var rfl) (ex_l (e1.trans eH) hS) (by rw [List.length_map]; omega) (fun x => rfl) (fun _ _ _ _ _ => et_yes) fun i x H3 e3 hi _ => ?_) ?_) fun p H3 np e3 hp => q p H3 (fresh_back (e1.trans eH) np) ((e1.trans eH).trans e3) hp
      · obtain ⟨n, hn, rfl⟩ := int_at hi
        have e4 : ns.getD i 0 = n := by rw [List.getD_eq_getElem?_getD, hn]; rfl
        rw [e4]
        exact ev_index (ev_var rfl) (sq_of (e3 _ _ hl')) (ev_var rfl) ((firsts_mem [] ns n).mpr (.inr (List.mem_of_getElem? hn)))
      · rw [given_all, List.length_map]
        unfold patternF
        rw [List.map_map]
        exact map_getD (fun s => V.int (((firsts [] ns).idxOf s : Nat) : Int)) ns
/-! ### left_for -/
abbrev st_left_for : Stmt := topS 13
theorem sc_left_for : FnScope ["row", "place", "number"] ["row", "place"] (defScope st_left_for) := ⟨rfl, rfl, rfl, by decide +kernel, rfl, by decide +kernel, by decide +kernel⟩

def sp_left_for (K : PySem.W.Frag) : Sp := fun vs H Q _ => ∃ (a : Addr) (ns : List Int) (i : Nat), vs = [.ref a, .int (i : Int)] ∧ SqL K H a (ns.map V.int) ∧ i < ns.length ∧ RetV (.int (leftF ns i)) H Q
theorem ev_left_for {K : PySem.W.Frag} {H : Hp} {a : Addr} {ns : List Int} {i : Nat} (h : SqL K H a (ns.map V.int)) (hi : i < ns.length) : SpV (sp_left_for K) [.ref a, .int (i : Int)] H (.int (leftF ns i)) :=
  spv fun H1 e Q q E => ⟨a, ns, i, rfl, ex_l e h, hi, q⟩
theorem d_left_for (G : Gs mg) (T : Ts K mg CA CC CN) (p : Pl K mg "left_for" st_left_for ["row", "place"])  : Def P w K mg base CX0 1 "left_for" ["row", "place"] (sp_left_for K) := by
  refine p.ok (k := 0) sc_left_for (fun vs H Q E h => ?_) (fun f cdv A outer s H vs Q E hr h => ?_)
  · obtain ⟨a, ns, i, rfl, _⟩ := h
    rfl
  · obtain ⟨a, ns, i, rfl, hS, hi, q⟩ := h
    refine ⟨_, (pss_cons (ps_set (i := 2) sc_left_for.nd rfl (.inl rfl) (pe_ix ix_list (pv 0) (pv 1) (fun _ _ => rfl)))
      (pss_cons (ps_if (pt_cmpR op_le (pv 2) pe_int (nomark _))
      (pss_one (ps_ret (pe_ifExp (pt_cmpR op_eq (pv 2) pe_int (nomark _)) pe_int pe_int)))
      pss_nil)
      (pss_one (ps_ret (pe_op op_sub (pe_bm PySem.F.plainAttrs_list PySem.F.slot_list_count PySem.F.type_list_count mt_lcount (pe_slice sl_list (pv 0) po_none (po_some (pv 1))) (pa_cons (pe_op op_sub (pv 2) pe_int) pa_nil)) (pe_bm PySem.F.plainAttrs_list PySem.F.slot_list_count PySem.F.type_list_count mt_lcount (pe_slice sl_list (pv 0) po_none (po_some (pv 1))) (pa_cons (pv 2) pa_nil))))))), ?_⟩
    refine q_asg (v := .int (ns.getD i 0)) (ev_op (ev_var rfl) (ev_var rfl) (rv_ixL hS (at_ints hi))) fun H1 e1 => ?_
    refine q_when (et_test (ev_op (ev_var rfl) ev_c rv_I0)) (fun hb H2 e2 => ?_) (fun hb H2 e2 => ?_)
    · have hb' := of_decide_eq_true hb
      refine s_ret (v := .int (leftF ns i)) (ev_if (et_test (ev_op (ev_var rfl) ev_c (rv_eq rfl))) (fun hc => ev_is ev_c ?_) (fun hc => ev_is ev_c ?_)) fun H3 e3 => q H3 (e1.trans (e2.trans e3))
      · have hc' : ns.getD i 0 = 0 := V.int.inj (of_decide_eq_true hc)
        unfold leftF
        rw [if_pos hb', if_pos hc']
      · have hc' : ¬ ns.getD i 0 = 0 := fun z => of_decide_eq_false hc (by rw [z])
        unfold leftF
        rw [if_pos hb', if_neg hc']
    · have hb' := of_decide_eq_false hb
      refine s_ret (v := .int (leftF ns i)) (ev_is (ev_op (ev_countL (el_is (el_sl (ev_var rfl) eo_none (eo_some (ev_var rfl)) (ex_l (e1.trans e2) hS)) (cut_to ns i)) (ev_op (ev_var rfl) ev_c rv_I0)) (ev_countL (el_is (el_sl (ev_var rfl) eo_none (eo_some (ev_var rfl)) (ex_l (e1.trans e2) hS)) (cut_to ns i)) (ev_var rfl)) rv_I0) ?_) fun H3 e3 => q H3 (e1.trans (e2.trans e3))
      unfold leftF
      rw [if_neg hb']
/-! ### first_wrong -/
abbrev st_first_wrong : Stmt := topS 14
theorem sc_first_wrong : FnScope ["row", "place"] ["row"] (defScope st_first_wrong) := ⟨rfl, rfl, rfl, by decide +kernel, rfl, by decide +kernel, by decide +kernel⟩

def sp_first_wrong (K : PySem.W.Frag) : Sp := fun vs H Q _ => ∃ (a : Addr) (ns : List Int), vs = [.ref a] ∧ SqL K H a (ns.map V.int) ∧ ns.length ≤ 1000 ∧ RetV (.int (firstWrongF ns)) H Q
theorem ev_first_wrong {K : PySem.W.Frag} {H : Hp} {a : Addr} {ns : List Int} (h : SqL K H a (ns.map V.int)) (hl : ns.length ≤ 1000) : SpV (sp_first_wrong K) [.ref a] H (.int (firstWrongF ns)) :=
  spv fun H1 e Q q E => ⟨a, ns, rfl, ex_l e h, hl, q⟩
theorem d_first_wrong (G : Gs mg) (T : Ts K mg CA CC CN) (p : Pl K mg "first_wrong" st_first_wrong ["row"]) (D_left_for : Def P w K mg base CX0 1 "left_for" ["row", "place"] (sp_left_for K)) : Def P w K mg base CX0 2 "first_wrong" ["row"] (sp_first_wrong K) := by
  refine p.ok (k := 1) sc_first_wrong (fun vs H Q E h => ?_) (fun f cdv A outer s H vs Q E hr h => ?_)
  · obtain ⟨a, ns, rfl, _⟩ := h
    rfl
  · obtain ⟨a, ns, rfl, hS, hl, q⟩ := h
    refine ⟨_, (pss_cons (ps_for PassesOwn.never rfl (pi_range1 (by rfl) G.n_range (pa_cons (pe_callB call_len_seq (by rfl) G.n_len (by decide +kernel) (pa_cons (pv 0) pa_nil)) pa_nil)) (pg_name (i := 1) sc_first_wrong.nd rfl (.inl rfl))
      (pss_one (ps_if (pt_cmpR op_lt (pe_fn D_left_for (by decide) hr (by rfl) pass0 (pa_cons (pv 0) (pa_cons (pv 1) pa_nil))) pe_int (nomark _))
      (pss_one (ps_ret (pv 1)))
      pss_nil)))
      (pss_one (ps_ret (pe_un un_neg pe_int)))), ?_⟩
    refine q_forR1 (n := ((ns.map V.int).length : Int)) (ea_cons (ev_len (ev_var rfl) hS) ea_nil) (by rw [List.length_map]; omega) (fun i σ' H' => ∃ y1, σ' = [some (.ref a), y1] ∧ Ex H H' ∧ ∀ j, j < i → 1 ≤ leftF ns j)
      (fun H1 e1 => ⟨none, rfl, e1, fun j hj => absurd hj (Nat.not_lt_zero _)⟩) (fun i σ' H' hi hP => ?_) (fun σ' H' hP => ?_)
    · obtain ⟨y1, rfl, eH, hP⟩ := hP
      rw [List.length_map] at hi
      have hi' : i < ns.length := by omega
      refine s_when (et_test (ev_op (ev_call (ea_cons (ev_var rfl) (ea_cons (ev_var rfl) ea_nil)) (ev_left_for (ex_l eH hS) hi')) ev_c rv_I0)) (fun hb H2 e2 => ?_) (fun hb H2 e2 => ?_)
      · have hb' := of_decide_eq_true hb
        rw [firstWrong_at hi' hP hb'] at q
        exact s_ret (ev_var rfl) fun H3 e3 => q H3 (eH.trans (e2.trans e3))
      · have hb' := of_decide_eq_false hb
        refine ⟨_, rfl, eH.trans e2, fun j hj => ?_⟩
        by_cases e : j = i
        · subst e; omega
        · exact hP j (by omega)
    · obtain ⟨y1, rfl, eH, hP⟩ := hP
      have hg : Good ns := fun i hi => hP i (by rw [List.length_map]; simpa using hi)
      rw [firstWrong_good.mpr hg] at q
      exact s_ret (ev_un ev_c ru_neg) fun H3 e3 => q H3 (eH.trans e3)
/-! ### Comes.__init__ -/
abbrev st_Comes___init__ : Stmt := inClass (topS 17) 0
theorem sc_Comes___init__ : FnScope ["self", "signs"] ["self", "signs"] (defScope st_Comes___init__) := ⟨rfl, rfl, rfl, by decide +kernel, rfl, by decide +kernel, by decide +kernel⟩

def sp_Comes___init__ (K : PySem.W.Frag) (CC CN : Addr) : Sp := fun vs H Q _ => ∃ (x dx a : Addr) (ns : List Int), vs = [.ref x, .ref a] ∧ H x = some (.ins CC dx []) ∧ SqL K H a (ns.map V.int) ∧
  ∀ p H2, H p = none → (∀ b o, b ≠ x → H b = some o → H2 b = some o) → H2 x = some (.ins CC dx [("signs", .ref p)]) → H2 p = some (.lst (ns.map V.int)) → Q .non H2
theorem made_ex {H H2 : Hp} {x dx C : Addr} (nx : H x = none) (ndx : H dx = none) (k : ∀ b o, b ≠ x → (upd (upd H dx (.own x)) x (.ins C dx [])) b = some o → H2 b = some o) : Ex H H2 := fun b o e =>
  k b o (ne_of_none e nx) (by rw [upd_ne (ne_of_none e nx), upd_ne (ne_of_none e ndx)]; exact e)
theorem made_l {K : PySem.W.Frag} {H : Hp} {x dx C a : Addr} {xs : List V} (nx : H x = none) (ndx : H dx = none) (h : SqL K H a xs) : SqL K (upd (upd H dx (.own x)) x (.ins C dx [])) a xs :=
  ex_l (made_ex (C := C) nx ndx fun _ _ _ e => e) h
/-- Comes(e) -/
theorem ec_make {K : PySem.W.Frag} {CC CN : Addr} {σ : L2.St} {H : Hp} {te : TE} {E : XK} {a : Addr} {ns : List Int} (h : Ev te σ H (.ref a)) (hS : SqL K H a (ns.map V.int)) : EvComes CC (tMake CC (sp_Comes___init__ K CC CN) [] E (tCons te tNil)) σ H ns := fun H1 e Q q =>
  h H1 e _ fun H2 e2 x dx nx ndx ne => ⟨x, dx, a, ns, rfl, upd_same, made_l nx ndx (ex_l (e.trans e2) hS), fun p H3 np k hx hp => ⟨rfl, by
    obtain ⟨n1, n2⟩ := upd_none np
    obtain ⟨n3, n4⟩ := upd_none n1
    exact q x p H3 (fresh_back e2 nx) (fresh_back e2 n3) (e2.trans (made_ex nx ndx k)) ⟨⟨dx, hx⟩, hp⟩⟩⟩
theorem ec_makeN {K : PySem.W.Frag} {CC CN : Addr} {σ : L2.St} {H : Hp} {te : TE} {E : XK} {ns : List Int} (h : EvL te σ H (ns.map V.int)) : EvComes CC (tMake CC (sp_Comes___init__ K CC CN) [] E (tCons te tNil)) σ H ns := fun H1 e Q q =>
  h H1 e _ fun a H2 na e2 ha x dx nx ndx ne => ⟨x, dx, a, ns, rfl, upd_same, made_l nx ndx (sq_of ha), fun p H3 np k hx hp => ⟨rfl, by
    obtain ⟨n1, n2⟩ := upd_none np
    obtain ⟨n3, n4⟩ := upd_none n1
    exact q x p H3 (fresh_back e2 nx) (fresh_back e2 n3) (e2.trans (made_ex nx ndx k)) ⟨⟨dx, hx⟩, hp⟩⟩⟩
theorem d_Comes___init__ (G : Gs mg) (T : Ts K mg CA CC CN) (p : PlM K CC "__init__" "Comes.__init__" st_Comes___init__ ["self", "signs"])  : Mkd P w K mg base CX0 1 "Comes" CC ["self", "signs"] (sp_Comes___init__ K CC CN) := by
  refine p.okI T.mkC T.kpC T.g_Comes (k := 0) sc_Comes___init__ (fun vs H Q E h => ?_) (fun f cdv A outer s H vs Q E hr h => ?_)
  · obtain ⟨x, dx, a, ns, rfl, _⟩ := h
    rfl
  · obtain ⟨x, dx, a, ns, rfl, hx, hS, q⟩ := h
    refine ⟨_, (pss_one (ps_fld (pv 0) (pe_callTy call_list_of (by rfl) G.n_list (by decide +kernel) (pa_cons (pv 1) pa_nil)) rfl)), ?_⟩
    refine el_list (K := K) (ev_var rfl) hS H (Ex.refl _) _ fun p H1 np e1 hp => ⟨_, rfl, x, CC, dx, [], rfl, e1 _ _ hx, T.tC.cl, T.nS, show 0 < 1000 by decide, ?_⟩
    have nx : x ≠ p := ne_of_none hx np
    refine q p _ np (fun b o hb ho => by rw [upd_ne hb]; exact e1 _ _ ho) upd_same (by rw [upd_ne nx.symm]; exact hp)
/-! ### Comes.shows -/
abbrev st_Comes_shows : Stmt := inClass (topS 17) 1
theorem sc_Comes_shows : FnScope ["self", "row"] ["self", "row"] (defScope st_Comes_shows) := ⟨rfl, rfl, rfl, by decide +kernel, rfl, by decide +kernel, by decide +kernel⟩

def sp_Comes_shows (K : PySem.W.Frag) (CC CN : Addr) : Sp := fun vs H Q _ => ∃ (x p a : Addr) (ns ms : List Int), vs = [.ref x, .ref a] ∧ IsComes CC H x p ns ∧ ns.length ≤ 1000 ∧ SqL K H a (ms.map V.int) ∧ RetV (.bl (decide (countsF ns = ms))) H Q
/-- o.shows(e) -/
theorem ev_shows_c {K : PySem.W.Frag} {CC CN : Addr} {σ : L2.St} {H : Hp} {to te : TE} {E : XK} {x p a : Addr} {ns ms : List Int} (ho : Ev to σ H (.ref x)) (h : Ev te σ H (.ref a)) (hc : IsComes CC H x p ns) (hl : ns.length ≤ 1000) (hS : SqL K H a (ms.map V.int)) :
    Ev (tMeth CC "shows" (sp_Comes_shows K CC CN) [] E to (tCons te tNil)) σ H (.bl (decide (countsF ns = ms))) := fun H1 e Q q => ho H1 e _ fun H2 e2 => by
  obtain ⟨⟨dx, h1⟩, h2⟩ := hc
  refine ⟨x, dx, _, rfl, (e.trans e2) _ _ h1, rfl, h H2 (e.trans e2) _ fun H3 e3 => ⟨x, p, a, ns, ms, rfl, ⟨⟨dx, (e.trans (e2.trans e3)) _ _ h1⟩, (e.trans (e2.trans e3)) _ _ h2⟩, hl, ex_l (e.trans (e2.trans e3)) hS, fun H4 e4 => q H4 (e2.trans (e3.trans e4))⟩⟩
theorem ev_shows_cN {K : PySem.W.Frag} {CC CN : Addr} {σ : L2.St} {H : Hp} {to te : TE} {E : XK} {x p : Addr} {ns ms : List Int} (ho : Ev to σ H (.ref x)) (h : EvL te σ H (ms.map V.int)) (hc : IsComes CC H x p ns) (hl : ns.length ≤ 1000) :
    Ev (tMeth CC "shows" (sp_Comes_shows K CC CN) [] E to (tCons te tNil)) σ H (.bl (decide (countsF ns = ms))) := fun H1 e Q q => ho H1 e _ fun H2 e2 => by
  obtain ⟨⟨dx, h1⟩, h2⟩ := hc
  refine ⟨x, dx, _, rfl, (e.trans e2) _ _ h1, rfl, h H2 (e.trans e2) _ fun a H3 na e3 ha => ⟨x, p, a, ns, ms, rfl, ⟨⟨dx, (e.trans (e2.trans e3)) _ _ h1⟩, (e.trans (e2.trans e3)) _ _ h2⟩, hl, sq_of ha, fun H4 e4 => q H4 (e2.trans (e3.trans e4))⟩⟩
/-- Comes(..).shows(e), the answer made on the way -/
theorem ev_shows_cM {K : PySem.W.Frag} {CC CN : Addr} {σ : L2.St} {H : Hp} {to te : TE} {E : XK} {ns ms : List Int} (ho : EvComes CC to σ H ns) (h : EvL te σ H (ms.map V.int)) (hl : ns.length ≤ 1000) :
    Ev (tMeth CC "shows" (sp_Comes_shows K CC CN) [] E to (tCons te tNil)) σ H (.bl (decide (countsF ns = ms))) := fun H1 e Q q => ho H1 e _ fun x p H2 nx np e2 hc => by
  obtain ⟨⟨dx, h1⟩, h2⟩ := hc
  refine ⟨x, dx, _, rfl, h1, rfl, h H2 (e.trans e2) _ fun a H3 na e3 ha => ⟨x, p, a, ns, ms, rfl, ⟨⟨dx, e3 _ _ h1⟩, e3 _ _ h2⟩, hl, sq_of ha, fun H4 e4 => q H4 (e2.trans (e3.trans e4))⟩⟩
theorem d_Comes_shows (G : Gs mg) (T : Ts K mg CA CC CN) (p : PlM K CC "shows" "Comes.shows" st_Comes_shows ["self", "row"]) (D_counts_of : Def P w K mg base CX0 1 "counts_of" ["row"] (sp_counts_of K)) : Mtd P w K mg base CX0 2 "shows" CC ["self", "row"] (sp_Comes_shows K CC CN) := by
  refine p.okM T.tC.cl (k := 1) sc_Comes_shows (fun vs H Q E h => ?_) (fun f cdv A outer s H vs Q E hr h => ?_)
  · obtain ⟨x, p, a, ns, ms, rfl, _⟩ := h
    rfl
  · obtain ⟨x, p, a, ns, ms, rfl, hc, hl, hS, q⟩ := h
    refine ⟨_, (pss_one (ps_ret (pe_cmpR (op_eqD hr.units) (pe_fn D_counts_of (by decide) hr (by rfl) pass0 (pa_cons (pe_fld (pv 0) rfl) pa_nil)) (pv 1) (nomark _)))), ?_⟩
    exact s_ret (ev_opL1 (el_call (ea_cons (ev_fldS T (ev_var rfl) hc) ea_nil) (el_counts_of (sq_of hc.2) hl)) (fun H1 e1 => ev_var rfl) fun q1 H1 h1 e1 => rv_eqI (sq_of h1) (ex_l e1 hS)) fun H2 e2 => q H2 e2
/-! ### Never.__init__ -/
abbrev st_Never___init__ : Stmt := inClass (topS 18) 0
theorem sc_Never___init__ : FnScope ["self", "place"] ["self", "place"] (defScope st_Never___init__) := ⟨rfl, rfl, rfl, by decide +kernel, rfl, by decide +kernel, by decide +kernel⟩

def sp_Never___init__ (K : PySem.W.Frag) (CC CN : Addr) : Sp := fun vs H Q _ => ∃ (x dx : Addr) (i : Int), vs = [.ref x, .int i] ∧ H x = some (.ins CN dx []) ∧
  ∀ H2, (∀ b o, b ≠ x → H b = some o → H2 b = some o) → H2 x = some (.ins CN dx [("place", .int i)]) → Q .non H2
theorem en_make {K : PySem.W.Frag} {CC CN : Addr} {σ : L2.St} {H : Hp} {te : TE} {E : XK} {i : Int} (h : Ev te σ H (.int i)) : EvNever CN (tMake CN (sp_Never___init__ K CC CN) [] E (tCons te tNil)) σ H i := fun H1 e Q q =>
  h H1 e _ fun H2 e2 x dx nx ndx ne => ⟨x, dx, i, rfl, upd_same, fun H3 k hx => ⟨rfl, q x H3 (fresh_back e2 nx) (e2.trans (fun b o eb => k b o (ne_of_none eb nx) (by rw [upd_ne (ne_of_none eb nx), upd_ne (ne_of_none eb ndx)]; exact eb))) ⟨dx, hx⟩⟩⟩
theorem d_Never___init__ (G : Gs mg) (T : Ts K mg CA CC CN) (p : PlM K CN "__init__" "Never.__init__" st_Never___init__ ["self", "place"])  : Mkd P w K mg base CX0 1 "Never" CN ["self", "place"] (sp_Never___init__ K CC CN) := by
  refine p.okI T.mkN T.kpN T.g_Never (k := 0) sc_Never___init__ (fun vs H Q E h => ?_) (fun f cdv A outer s H vs Q E hr h => ?_)
  · obtain ⟨x, dx, i, rfl, _⟩ := h
    rfl
  · obtain ⟨x, dx, i, rfl, hx, q⟩ := h
    refine ⟨_, (pss_one (ps_fld (pv 0) (pv 1) rfl)), ?_⟩
    refine ⟨_, rfl, _, rfl, x, CN, dx, [], rfl, hx, T.tN.cl, T.nP, show 0 < 1000 by decide, ?_⟩
    exact q _ (fun b o hb ho => by rw [upd_ne hb]; exact ho) upd_same
/-! ### Never.shows -/
abbrev st_Never_shows : Stmt := inClass (topS 18) 1
theorem sc_Never_shows : FnScope ["self", "row"] ["self", "row"] (defScope st_Never_shows) := ⟨rfl, rfl, rfl, by decide +kernel, rfl, by decide +kernel, by decide +kernel⟩

def sp_Never_shows (K : PySem.W.Frag) (CC CN : Addr) : Sp := fun vs H Q _ => ∃ (x a : Addr) (i : Int) (ms : List Int), vs = [.ref x, .ref a] ∧ IsNever CN H x i ∧ SqL K H a (ms.map V.int) ∧ RetV (.bl (neverB ms i)) H Q
theorem ev_shows_n {K : PySem.W.Frag} {CC CN : Addr} {σ : L2.St} {H : Hp} {to te : TE} {E : XK} {x a : Addr} {i : Int} {ms : List Int} (ho : Ev to σ H (.ref x)) (h : Ev te σ H (.ref a)) (hc : IsNever CN H x i) (hS : SqL K H a (ms.map V.int)) :
    Ev (tMeth CN "shows" (sp_Never_shows K CC CN) [] E to (tCons te tNil)) σ H (.bl (neverB ms i)) := fun H1 e Q q => ho H1 e _ fun H2 e2 => by
  obtain ⟨dx, h1⟩ := hc
  refine ⟨x, dx, _, rfl, (e.trans e2) _ _ h1, rfl, h H2 (e.trans e2) _ fun H3 e3 => ⟨x, a, i, ms, rfl, ⟨dx, (e.trans (e2.trans e3)) _ _ h1⟩, ex_l (e.trans (e2.trans e3)) hS, fun H4 e4 => q H4 (e2.trans (e3.trans e4))⟩⟩
theorem ev_shows_nN {K : PySem.W.Frag} {CC CN : Addr} {σ : L2.St} {H : Hp} {to te : TE} {E : XK} {x : Addr} {i : Int} {ms : List Int} (ho : Ev to σ H (.ref x)) (h : EvL te σ H (ms.map V.int)) (hc : IsNever CN H x i) :
    Ev (tMeth CN "shows" (sp_Never_shows K CC CN) [] E to (tCons te tNil)) σ H (.bl (neverB ms i)) := fun H1 e Q q => ho H1 e _ fun H2 e2 => by
  obtain ⟨dx, h1⟩ := hc
  refine ⟨x, dx, _, rfl, (e.trans e2) _ _ h1, rfl, h H2 (e.trans e2) _ fun a H3 na e3 ha => ⟨x, a, i, ms, rfl, ⟨dx, (e.trans (e2.trans e3)) _ _ h1⟩, sq_of ha, fun H4 e4 => q H4 (e2.trans (e3.trans e4))⟩⟩
theorem ev_shows_nM {K : PySem.W.Frag} {CC CN : Addr} {σ : L2.St} {H : Hp} {to te : TE} {E : XK} {a : Addr} {i : Int} {ms : List Int} (ho : EvNever CN to σ H i) (h : Ev te σ H (.ref a)) (hS : SqL K H a (ms.map V.int)) :
    Ev (tMeth CN "shows" (sp_Never_shows K CC CN) [] E to (tCons te tNil)) σ H (.bl (neverB ms i)) := fun H1 e Q q => ho H1 e _ fun x H2 nx e2 hc => by
  obtain ⟨dx, h1⟩ := hc
  refine ⟨x, dx, _, rfl, h1, rfl, h H2 (e.trans e2) _ fun H3 e3 => ⟨x, a, i, ms, rfl, ⟨dx, e3 _ _ h1⟩, ex_l (e.trans (e2.trans e3)) hS, fun H4 e4 => q H4 (e2.trans (e3.trans e4))⟩⟩
theorem ev_shows_nMN {K : PySem.W.Frag} {CC CN : Addr} {σ : L2.St} {H : Hp} {to te : TE} {E : XK} {i : Int} {ms : List Int} (ho : EvNever CN to σ H i) (h : EvL te σ H (ms.map V.int)) :
    Ev (tMeth CN "shows" (sp_Never_shows K CC CN) [] E to (tCons te tNil)) σ H (.bl (neverB ms i)) := fun H1 e Q q => ho H1 e _ fun x H2 nx e2 hc => by
  obtain ⟨dx, h1⟩ := hc
  refine ⟨x, dx, _, rfl, h1, rfl, h H2 (e.trans e2) _ fun a H3 na e3 ha => ⟨x, a, i, ms, rfl, ⟨dx, e3 _ _ h1⟩, sq_of ha, fun H4 e4 => q H4 (e2.trans (e3.trans e4))⟩⟩
theorem d_Never_shows (G : Gs mg) (T : Ts K mg CA CC CN) (p : PlM K CN "shows" "Never.shows" st_Never_shows ["self", "row"]) (D_left_for : Def P w K mg base CX0 1 "left_for" ["row", "place"] (sp_left_for K)) : Mtd P w K mg base CX0 2 "shows" CN ["self", "row"] (sp_Never_shows K CC CN) := by
  refine p.okM T.tN.cl (k := 1) sc_Never_shows (fun vs H Q E h => ?_) (fun f cdv A outer s H vs Q E hr h => ?_)
  · obtain ⟨x, a, i, ms, rfl, _⟩ := h
    rfl
  · obtain ⟨x, a, i, ms, rfl, hc, hS, q⟩ := h
    refine ⟨_, (pss_one (ps_ret (pe_and (pe_chain op_le op_lt pe_int (pe_fld (pv 0) rfl) (pe_callB call_len_seq (by rfl) G.n_len (by decide +kernel) (pa_cons (pv 1) pa_nil))) (pe_one (pe_cmpR op_lt (pe_fn D_left_for (by decide) hr (by rfl) pass0 (pa_cons (pv 1) (pa_cons (pe_fld (pv 0) rfl) pa_nil))) pe_int (nomark _)))))), ?_⟩
    refine s_ret (v := .bl (neverB ms i)) (ev_is (ev_andV (a := decide (0 ≤ i) && decide (i < ((ms.map V.int).length : Int))) (b := decide (leftF ms i.toNat < 1)) (ev_chain (f := fun i j => decide (i ≤ j)) (g := fun i j => decide (i < j)) ev_c (ev_fldP T (ev_var rfl) hc) fun _ => ev_len (ev_var rfl) hS) fun hb => ?_) (by unfold neverB; rw [List.length_map])) fun H2 e2 => q H2 e2
    rw [Bool.and_eq_true, List.length_map] at hb
    have h1 := of_decide_eq_true hb.1
    have h2 := of_decide_eq_true hb.2
    exact ev_op (ev_call (ea_cons (ev_var rfl) (ea_cons (ev_is (w := .int ((i.toNat : Nat) : Int)) (ev_fldP T (ev_var rfl) hc) (by congr 1; omega)) ea_nil)) (ev_left_for hS (by omega))) ev_c rv_I0
/-! ### check_counts -/
abbrev st_check_counts : Stmt := topS 20
theorem sc_check_counts : FnScope ["row"] ["row"] (defScope st_check_counts) := ⟨rfl, rfl, rfl, by decide +kernel, rfl, by decide +kernel, by decide +kernel⟩

def sp_check_counts (K : PySem.W.Frag) : Sp := fun vs H Q _ => ∃ (a : Addr) (ns : List Int), vs = [.ref a] ∧ SqL K H a (ns.map V.int) ∧ ns.length ≤ 20 ∧ Good ns ∧ RetV .non H Q
theorem ev_check_counts {K : PySem.W.Frag} {H : Hp} {a : Addr} {ns : List Int} (h : SqL K H a (ns.map V.int)) (hl : ns.length ≤ 20) (hg : Good ns) : SpV (sp_check_counts K) [.ref a] H .non :=
  spv fun H1 e Q q E => ⟨a, ns, rfl, ex_l e h, hl, hg, q⟩
theorem d_check_counts (G : Gs mg) (T : Ts K mg CA CC CN) (p : Pl K mg "check_counts" st_check_counts ["row"]) (D_check_row : Def P w K mg base CX0 2 "check_row" ["row"] (sp_check_row K)) (D_first_wrong : Def P w K mg base CX0 2 "first_wrong" ["row"] (sp_first_wrong K)) : Def P w K mg base CX0 3 "check_counts" ["row"] (sp_check_counts K) := by
  refine p.ok (k := 2) sc_check_counts (fun vs H Q E h => ?_) (fun f cdv A outer s H vs Q E hr h => ?_)
  · obtain ⟨a, ns, rfl, _⟩ := h
    rfl
  · obtain ⟨a, ns, rfl, hS, hl, hg, q⟩ := h
    refine ⟨_, (pss_cons (ps_expr (pe_fn D_check_row (by decide) hr (by rfl) pass0 (pa_cons (pv 0) pa_nil)))
      (pss_one (ps_if (pt_cmpR op_ge (pe_fn D_first_wrong (by decide) hr (by rfl) pass0 (pa_cons (pv 0) pa_nil)) pe_int (nomark _))
      (pss_one ps_never)
      pss_nil))), ?_⟩
    refine q_drop (ev_call (ea_cons (ev_var rfl) ea_nil) (ev_check_row hS hl)) fun H1 e1 => ?_
    exact s_when (b := false) (et_test (ev_is (ev_op (ev_call (ea_cons (ev_var rfl) ea_nil) (ev_first_wrong (ex_l e1 hS) (by omega))) ev_c rv_I0) (by rw [firstWrong_good.mpr hg]; rfl))) (fun hb => nomatch hb) fun _ H2 e2 => q H2 (e1.trans e2)
/-! ### many_of -/
abbrev st_many_of : Stmt := topS 21
theorem sc_many_of : FnScope ["row", "found", "place"] ["row"] (defScope st_many_of) := ⟨rfl, rfl, rfl, by decide +kernel, rfl, by decide +kernel, by decide +kernel⟩

def sp_many_of (K : PySem.W.Frag) : Sp := fun vs H Q _ => ∃ (a : Addr) (ns : List Int), vs = [.ref a] ∧ SqL K H a (ns.map V.int) ∧ ns.length ≤ 1000 ∧ RetV (.int (manyF ns)) H Q
theorem ev_many_of {K : PySem.W.Frag} {H : Hp} {a : Addr} {ns : List Int} (h : SqL K H a (ns.map V.int)) (hl : ns.length ≤ 1000) : SpV (sp_many_of K) [.ref a] H (.int (manyF ns)) :=
  spv fun H1 e Q q E => ⟨a, ns, rfl, ex_l e h, hl, q⟩
theorem d_many_of (G : Gs mg) (T : Ts K mg CA CC CN) (p : Pl K mg "many_of" st_many_of ["row"]) (D_left_for : Def P w K mg base CX0 1 "left_for" ["row", "place"] (sp_left_for K)) : Def P w K mg base CX0 2 "many_of" ["row"] (sp_many_of K) := by
  refine p.ok (k := 1) sc_many_of (fun vs H Q E h => ?_) (fun f cdv A outer s H vs Q E hr h => ?_)
  · obtain ⟨a, ns, rfl, _⟩ := h
    rfl
  · obtain ⟨a, ns, rfl, hS, hl, q⟩ := h
    refine ⟨_, (pss_cons (ps_set (i := 1) sc_many_of.nd rfl (.inl rfl) pe_int)
      (pss_cons (ps_for PassesOwn.never rfl (pi_range1 (by rfl) G.n_range (pa_cons (pe_callB call_len_seq (by rfl) G.n_len (by decide +kernel) (pa_cons (pv 0) pa_nil)) pa_nil)) (pg_name (i := 2) sc_many_of.nd rfl (.inl rfl))
      (pss_one (ps_set (i := 1) sc_many_of.nd rfl (.inl rfl) (pe_op op_mul (pv 1) (pe_fn D_left_for (by decide) hr (by rfl) pass0 (pa_cons (pv 0) (pa_cons (pv 2) pa_nil)))))))
      (pss_one (ps_ret (pv 1))))), ?_⟩
    refine q_asg (v := .int 1) ev_c fun H1 e1 => ?_
    refine q_forR1 (n := ((ns.map V.int).length : Int)) (ea_cons (ev_len (ev_var rfl) (ex_l e1 hS)) ea_nil) (by rw [List.length_map]; omega) (fun i σ' H' => ∃ y2, σ' = [some (.ref a), some (.int (prodFrom ns 0 i)), y2] ∧ Ex H H')
      (fun H2 e2 => ⟨none, rfl, e1.trans e2⟩) (fun i σ' H' hi hP => ?_) (fun σ' H' hP => ?_)
    · obtain ⟨y2, rfl, eH⟩ := hP
      rw [List.length_map] at hi
      have hi' : i < ns.length := by omega
      have hb := leftF_bd ns i
      refine s_asg (v := .int (prodFrom ns 0 (i + 1))) (ev_is (ev_op (ev_var rfl) (ev_call (ea_cons (ev_var rfl) (ea_cons (ev_var rfl) ea_nil)) (ev_left_for (ex_l eH hS) hi')) (rv_I (.inr ⟨by omega, by omega⟩))) ?_) fun H3 e3 => ⟨_, rfl, eH.trans e3⟩
      rw [prodFrom_snoc, Nat.zero_add]
    · obtain ⟨y2, rfl, eH⟩ := hP
      refine s_ret (ev_var rfl) fun H3 e3 => ?_
      have : (((ns.map V.int).length : Int)).toNat = ns.length := by rw [List.length_map]; simp
      rw [this]
      exact q H3 (eH.trans e3)
/-! ### how_many -/
abbrev st_how_many : Stmt := topS 22
theorem sc_how_many : FnScope ["row"] ["row"] (defScope st_how_many) := ⟨rfl, rfl, rfl, by decide +kernel, rfl, by decide +kernel, by decide +kernel⟩

def sp_how_many (K : PySem.W.Frag) : Sp := fun vs H Q _ => ∃ (a : Addr) (ns : List Int), vs = [.ref a] ∧ SqL K H a (ns.map V.int) ∧ ns.length ≤ 20 ∧ RetV (.int ((everyF ns).length : Int)) H Q
theorem ev_how_many {K : PySem.W.Frag} {H : Hp} {a : Addr} {ns : List Int} (h : SqL K H a (ns.map V.int)) (hl : ns.length ≤ 20) : SpV (sp_how_many K) [.ref a] H (.int ((everyF ns).length : Int)) :=
  spv fun H1 e Q q E => ⟨a, ns, rfl, ex_l e h, hl, q⟩
theorem ev_how_manyG {K : PySem.W.Frag} {H : Hp} {a : Addr} {ns : List Int} (h : SqL K H a (ns.map V.int)) (hl : ns.length ≤ 20) (hg : Good ns) : SpV (sp_how_many K) [.ref a] H (.int (manyF ns)) :=
  spv fun H1 e Q q E => ⟨a, ns, rfl, ex_l e h, hl, by rw [every_len hg]; exact q⟩
theorem d_how_many (G : Gs mg) (T : Ts K mg CA CC CN) (p : Pl K mg "how_many" st_how_many ["row"]) (D_check_row : Def P w K mg base CX0 2 "check_row" ["row"] (sp_check_row K)) (D_many_of : Def P w K mg base CX0 2 "many_of" ["row"] (sp_many_of K)) (D_first_wrong : Def P w K mg base CX0 2 "first_wrong" ["row"] (sp_first_wrong K)) : Def P w K mg base CX0 3 "how_many" ["row"] (sp_how_many K) := by
  refine p.ok (k := 2) sc_how_many (fun vs H Q E h => ?_) (fun f cdv A outer s H vs Q E hr h => ?_)
  · obtain ⟨a, ns, rfl, _⟩ := h
    rfl
  · obtain ⟨a, ns, rfl, hS, hl, q⟩ := h
    refine ⟨_, (pss_cons (ps_expr (pe_fn D_check_row (by decide) hr (by rfl) pass0 (pa_cons (pv 0) pa_nil)))
      (pss_one (ps_ret (pe_ifExp (pt_cmpR op_ge (pe_fn D_first_wrong (by decide) hr (by rfl) pass0 (pa_cons (pv 0) pa_nil)) pe_int (nomark _)) pe_int (pe_fn D_many_of (by decide) hr (by rfl) pass0 (pa_cons (pv 0) pa_nil)))))), ?_⟩
    refine q_drop (ev_call (ea_cons (ev_var rfl) ea_nil) (ev_check_row hS hl)) fun H1 e1 => ?_
    refine s_ret (v := .int ((everyF ns).length : Int)) (ev_if (et_test (ev_op (ev_call (ea_cons (ev_var rfl) ea_nil) (ev_first_wrong (ex_l e1 hS) (by omega))) ev_c rv_I0)) (fun hb => ?_) (fun hb => ?_)) fun H2 e2 => q H2 (e1.trans e2)
    · have hb' := of_decide_eq_true hb
      have hg : ¬ Good ns := fun h => by rw [firstWrong_good.mpr h] at hb'; exact absurd hb' (by decide)
      exact ev_is ev_c (by rw [every_bad hg]; rfl)
    · have hb' := of_decide_eq_false hb
      have hg : Good ns := Classical.byContradiction fun h => by
        obtain ⟨i, hf, _⟩ := firstWrong_bad h
        rw [hf] at hb'
        omega
      exact ev_is (ev_call (ea_cons (ev_var rfl) ea_nil) (ev_many_of (ex_l e1 hS) (by omega))) (by rw [every_len hg])
/-! ### pattern_of -/
abbrev st_pattern_of : Stmt := topS 23
theorem sc_pattern_of : FnScope ["row", "number", "many", "found", "place", "often", "known", "some", "sign"] ["row", "number"] (defScope st_pattern_of) := ⟨rfl, rfl, rfl, by decide +kernel, rfl, by decide +kernel, by decide +kernel⟩

def sp_pattern_of (K : PySem.W.Frag) : Sp := fun vs H Q _ => ∃ (a : Addr) (ns : List Int) (m : Int), vs = [.ref a, .int m] ∧ SqL K H a (ns.map V.int) ∧ ns.length ≤ 20 ∧ Good ns ∧ 0 ≤ m ∧ m < manyF ns ∧ RetL ((patF ns m).map V.int) H Q
theorem el_pattern_of {K : PySem.W.Frag} {H : Hp} {a : Addr} {ns : List Int} {m : Int} (h : SqL K H a (ns.map V.int)) (hl : ns.length ≤ 20) (hg : Good ns) (h0 : 0 ≤ m) (h1 : m < manyF ns) : SpL (sp_pattern_of K) [.ref a, .int m] H ((patF ns m).map V.int) :=
  spl fun H1 e Q q E => ⟨a, ns, m, rfl, ex_l e h, hl, hg, h0, h1, q⟩
theorem d_pattern_of (G : Gs mg) (T : Ts K mg CA CC CN) (p : Pl K mg "pattern_of" st_pattern_of ["row", "number"]) (D_many_of : Def P w K mg base CX0 2 "many_of" ["row"] (sp_many_of K)) : Def P w K mg base CX0 3 "pattern_of" ["row", "number"] (sp_pattern_of K) := by
  refine p.ok (k := 2) sc_pattern_of (fun vs H Q E h => ?_) (fun f cdv A outer s H vs Q E hr h => ?_)
  · obtain ⟨a, ns, m, rfl, _⟩ := h
    rfl
  · obtain ⟨a, ns, m, rfl, hS, hl, hg, h0, h1, q⟩ := h
    refine ⟨_, (pss_cons (ps_set (i := 2) sc_pattern_of.nd rfl (.inl rfl) (pe_fn D_many_of (by decide) hr (by rfl) pass0 (pa_cons (pv 0) pa_nil)))
      (pss_cons (ps_set (i := 3) sc_pattern_of.nd rfl (.inr rfl) (pe_lst pa_nil))
      (pss_cons (ps_for PassesOwn.never rfl (pi_enum (by rfl) G.n_enumerate (pa_cons (pv 0) pa_nil)) (pg_tup rfl (pgs_cons (pg_name (i := 4) sc_pattern_of.nd rfl (.inl rfl)) (pgs_cons (pg_name (i := 5) sc_pattern_of.nd rfl (.inr rfl)) pgs_nil)))
      (pss_cons (ps_set (i := 6) sc_pattern_of.nd rfl (.inl rfl) (pe_lenSetD rfl (by rfl) G.n_len (by rfl) G.n_set (pv 3)))
      (pss_cons (ps_set (i := 7) sc_pattern_of.nd rfl (.inl rfl) (pe_ifExp (pt_cmpR op_gt (pv 5) pe_int (nomark _)) (pe_lc (own := [("sign", 8)]) (g := (gName 8)) (tt := (tTest (tOp _ (tBM K "list" (rCntI K) (tVar 3) (tCons (tVar 8) tNil)) (tVar 5)))) (te := (tVar 8)) rfl sc_pattern_of.nd (pi_range1 (by rfl) G.n_range (pa_cons (pv 6) pa_nil)) (blkOk_by (own := [("sign", 8)]) (N := ["row", "number", "many", "found", "place", "often", "known", "some", "sign"]) (sc := defScope st_pattern_of) (by decide +kernel)) (fun _ _ _ _ _ => (pg_name (i := 8) sc_pattern_of.nd rfl (.inl rfl))) (fun _ _ _ _ _ => (pts_one (pt_cmpR op_eq (pe_bm PySem.F.plainAttrs_list PySem.F.slot_list_count PySem.F.type_list_count mt_lcount (pv 3) (pa_cons (pv 8) pa_nil)) (pv 5) (nomark _)))) (fun _ _ _ _ _ => (pv 8))) (pe_lst (pa_cons (pv 6) pa_nil))))
      (pss_cons (ps_set (i := 2) sc_pattern_of.nd rfl (.inl rfl) (pe_op op_fdiv (pv 2) (pe_callB call_len_seq (by rfl) G.n_len (by decide +kernel) (pa_cons (pv 7) pa_nil))))
      (pss_cons (ps_expr (pe_bm PySem.F.plainAttrs_list PySem.F.slot_list_append PySem.F.type_list_append mt_append (pv 3) (pa_cons (pe_ix ix_list (pv 7) (pe_op op_fdivW (pv 1) (pv 2)) (fun _ _ => rfl)) pa_nil)))
      (pss_one (ps_set (i := 1) sc_pattern_of.nd rfl (.inl rfl) (pe_op op_mod (pv 1) (pv 2)))))))))
      (pss_one (ps_ret (pv 3)))))), ?_⟩
    refine q_asg (v := .int (manyF ns)) (ev_call (ea_cons (ev_var rfl) ea_nil) (ev_many_of hS (by omega))) fun H1 e1 => ?_
    refine q_asgL (xs := []) (el_lst ea_nil (by decide)) fun l H2 nl e2 hl2 => ?_
    refine q_forE (ev_var rfl) (ex_l (e1.trans e2) hS) (fun i σ' H' => ∃ y4 y5 y6 y7 y8 found num, σ' = [some (.ref a), some (.int num), some (.int (prodFrom ns i (ns.length - i))), some (.ref l), y4, y5, y6, y7, y8] ∧ Ex H1 H' ∧ H' l = some (.lst (found.map V.int)) ∧ found.length = i ∧ IsPat found ∧ countsF found = ns.take i ∧ 0 ≤ num ∧ num < prodFrom ns i (ns.length - i) ∧ patGo found (ns.drop i) (prodFrom ns i (ns.length - i)) num = patF ns m)
      (fun H3 e3 => ⟨_, _, _, _, _, [], m, rfl, e2.trans e3, e3 _ _ hl2, rfl, isPat_nil, rfl, h0, h1, rfl⟩) (fun i σ' H' _ hP => by obtain ⟨_, _, _, _, _, _, _, _, eH, _⟩ := hP; exact ex_l (e1.trans eH) hS) (fun i x σ' H' T hi hP nT => ?_) (fun σ' H' hP => ?_)
    · obtain ⟨y4, y5, y6, y7, y8, found, num, rfl, eH, hf, hfl, hp, hc, hn0, hn1, hgo⟩ := hP
      obtain ⟨t, ht, rfl⟩ := int_at hi
      have hi' : i < ns.length := (List.getElem?_eq_some_iff.mp ht).1
      have et : ns.getD i 0 = t := by rw [List.getD_eq_getElem?_getD, ht]; rfl
      have hf3 : (upd H' T (.tup [.int (i : Int), .int t])) l = some (.lst (found.map V.int)) := by rw [upd_ne (ne_of_none hf nT)]; exact hf
      have eH3 : Ex H1 (upd H' T (.tup [.int (i : Int), .int t])) := eH.trans (Ex.new nT)
      revert hf3 eH3
      generalize upd H' T (.tup [.int (i : Int), .int t]) = H3
      intro hf3 eH3
      obtain ⟨n, hn⟩ : ∃ n, ns.length - i = n + 1 := ⟨ns.length - i - 1, by omega⟩
      have hn' : i + (n + 1) = ns.length := by omega
      rw [hn] at hn1 hgo
      obtain ⟨a1, a2, a3, a4, a5⟩ := pat_turn hg hp hc hn' hn0 hn1
      have hlen := some_len hc (hg i hi')
      have hlb := (leftF_bd ns i).2
      rw [et] at a1 a3 a4 hlen
      refine q_asg (v := .int (knownF found : Int)) (ev_lenSet (ev_var rfl) (sq_of hf3) (by omega)) fun H4 e4 => ?_
      have hkn : knownF found ≤ 20 := by
        have := firsts_len [] found
        unfold knownF
        simp at this
        omega
      refine q_asgL (xs := (someF found t).map V.int) (el_if (et_test (ev_op (ev_var rfl) ev_c rv_I0)) (fun hb => ?_) (fun hb => ?_)) fun ps H5 nps e5 hps => ?_
      · have hb' : 0 < t := of_decide_eq_true hb
        refine el_is (el_lcR1 (n := (knownF found : Int)) (fun i => decide (((found.count (i : Int) : Nat) : Int) = t)) (fun i => .int (i : Int)) (ea_cons (ev_var rfl) ea_nil) ⟨by omega, by omega⟩ (fun x => rfl) (fun k H6 e6 hk => et_test (ev_is (ev_op (ev_count (ev_var rfl) (sq_of ((e4.trans e6) _ _ hf3)) (ev_var rfl)) (ev_var rfl) (rv_eq rfl)) ?_)) (fun k H6 e6 hk _ => ev_var rfl)) ?_
        · rw [dec_int]
          congr 1
        · rw [Int.toNat_natCast]
          exact given_some hp hb'
      · have hb' : ¬ 0 < t := of_decide_eq_false hb
        refine el_is (el_lst (ea_cons (ev_var rfl) ea_nil) (show 1 ≤ 100000 by decide)) ?_
        unfold someF
        rw [if_neg hb']
        rfl
      · refine q_asg (v := .int (prodFrom ns (i + 1) n)) (ev_is (ev_op (ev_var rfl) (ev_len (ev_var rfl) (sq_of hps)) (rv_I ?_)) ?_) fun H6 e6 => ?_
        · rw [List.length_map]; exact ⟨a4, by omega⟩
        · rw [List.length_map, hn, a1]
        have hk : (num / prodFrom ns (i + 1) n).toNat < (someF found t).length := by omega
        refine q_app (v := .int ((someF found t).getD (num / prodFrom ns (i + 1) n).toNat 0)) ((e4.trans (e5.trans e6)) _ _ hf3) (ev_var rfl) (ev_op (ev_var rfl) (ev_op (ev_var rfl) (ev_var rfl) (rv_I (wide_div a5 (prodFrom_fit hg hl (by omega)) (by decide) (by decide)))) (rv_ixL (sq_of (e6 _ _ hps)) ?_)) (by rw [List.length_map]; omega) fun H7 e7 => ?_
        · have e : num / prodFrom ns (i + 1) n = (((num / prodFrom ns (i + 1) n).toNat : Nat) : Int) := by omega
          rw [e]
          exact at_ints hk
        · obtain ⟨b1, b2⟩ := pat_next hg hp hc hi' (by rw [et]; exact getD_mem hk)
          refine s_asg (v := .int (num % prodFrom ns (i + 1) n)) (ev_op (ev_var rfl) (ev_var rfl) (rv_I a5)) fun H8 e8 => ?_
          have hn2 : ns.length - (i + 1) = n := by omega
          refine ⟨_, _, _, _, _, found ++ [(someF found t).getD (num / prodFrom ns (i + 1) n).toNat 0], _, by rw [hn2]; rfl, ?_, ?_, by rw [List.length_append, hfl]; rfl, b1, b2, Int.emod_nonneg _ (by omega), by rw [hn2]; exact Int.emod_lt_of_pos _ a5, ?_⟩
          · exact Ex.trans (Ex.mut (eH3.trans (e4.trans (e5.trans (e6.trans e7)))) nl) e8
          · rw [e8 _ _ upd_same, List.map_append]; rfl
          · rw [hn2]
            rw [← hgo]
            have ed : ns.drop i = t :: ns.drop (i + 1) := by
              rw [List.drop_eq_getElem_cons hi']
              congr 1
              rw [← et, List.getD_eq_getElem?_getD, List.getElem?_eq_getElem hi']
              rfl
            rw [ed]
            conv => rhs; unfold patGo
            rw [a1]
    · obtain ⟨y4, y5, y6, y7, y8, found, num, rfl, eH, hf, hfl, hp, hc, hn0, hn1, hgo⟩ := hP
      have hd : ns.drop (ns.map V.int).length = [] := by rw [List.length_map]; exact List.drop_of_length_le (Nat.le_refl _)
      rw [hd] at hgo
      have hgo' : found = patF ns m := hgo
      rw [← hgo'] at q
      exact s_ret (ev_var rfl) fun H3 e3 => q l H3 (fresh_back e1 nl) (e1.trans (eH.trans e3)) (e3 _ _ hf)
/-! ### pattern_by -/
abbrev st_pattern_by : Stmt := topS 24
theorem sc_pattern_by : FnScope ["row", "number"] ["row", "number"] (defScope st_pattern_by) := ⟨rfl, rfl, rfl, by decide +kernel, rfl, by decide +kernel, by decide +kernel⟩

def sp_pattern_by (K : PySem.W.Frag) : Sp := fun vs H Q _ => ∃ (a : Addr) (ns : List Int) (m : Int), vs = [.ref a, .int m] ∧ SqL K H a (ns.map V.int) ∧ ns.length ≤ 20 ∧ Good ns ∧ 0 ≤ m ∧ m < manyF ns ∧ RetL ((patF ns m).map V.int) H Q
theorem el_pattern_by {K : PySem.W.Frag} {H : Hp} {a : Addr} {ns : List Int} {m : Int} (h : SqL K H a (ns.map V.int)) (hl : ns.length ≤ 20) (hg : Good ns) (h0 : 0 ≤ m) (h1 : m < manyF ns) : SpL (sp_pattern_by K) [.ref a, .int m] H ((patF ns m).map V.int) :=
  spl fun H1 e Q q E => ⟨a, ns, m, rfl, ex_l e h, hl, hg, h0, h1, q⟩
theorem d_pattern_by (G : Gs mg) (T : Ts K mg CA CC CN) (p : Pl K mg "pattern_by" st_pattern_by ["row", "number"]) (D_check_counts : Def P w K mg base CX0 3 "check_counts" ["row"] (sp_check_counts K)) (D_pattern_of : Def P w K mg base CX0 3 "pattern_of" ["row", "number"] (sp_pattern_of K)) (D_is_number : Def P w K mg base CX0 1 "is_number" ["thing"] (sp_is_number K)) (D_many_of : Def P w K mg base CX0 2 "many_of" ["row"] (sp_many_of K)) : Def P w K mg base CX0 4 "pattern_by" ["row", "number"] (sp_pattern_by K) := by
  refine p.ok (k := 3) sc_pattern_by (fun vs H Q E h => ?_) (fun f cdv A outer s H vs Q E hr h => ?_)
  · obtain ⟨a, ns, m, rfl, _⟩ := h
    rfl
  · obtain ⟨a, ns, m, rfl, hS, hl, hg, h0, h1, q⟩ := h
    refine ⟨_, (pss_cons (ps_expr (pe_fn D_check_counts (by decide) hr (by rfl) pass0 (pa_cons (pv 0) pa_nil)))
      (pss_cons (ps_if (PW.pt (pw_or (pt_not (pt_val (pe_fn D_is_number (by decide) hr (by rfl) pass0 (pa_cons (pv 1) pa_nil)))) (pw_or1 (pt_not (pt_chain op_le op_lt pe_int (pv 1) (pe_fn D_many_of (by decide) hr (by rfl) pass0 (pa_cons (pv 0) pa_nil)))))))
      (pss_one ps_never)
      pss_nil)
      (pss_one (ps_ret (pe_fn D_pattern_of (by decide) hr (by rfl) pass0 (pa_cons (pv 0) (pa_cons (pv 1) pa_nil))))))), ?_⟩
    refine q_drop (ev_call (ea_cons (ev_var rfl) ea_nil) (ev_check_counts hS hl hg)) fun H1 e1 => ?_
    refine q_when (b := false) (et_is (et_or (a := false) (b := false) (et_not (a := true) (et_B (ev_call (ea_cons (ev_var rfl) ea_nil) ev_is_number))) fun _ => et_not (a := true) (et_is (et_test (ev_chain (f := fun i j => decide (i ≤ j)) (g := fun i j => decide (i < j)) ev_c (ev_var rfl) fun _ => ev_call (ea_cons (ev_var rfl) ea_nil) (ev_many_of (ex_l e1 hS) (by omega)))) (by rw [decide_eq_true h0, decide_eq_true h1]; rfl))) rfl) (fun hb => nomatch hb) fun _ H2 e2 => ?_
    exact s_retL (el_call (ea_cons (ev_var rfl) (ea_cons (ev_var rfl) ea_nil)) (el_pattern_of (ex_l (e1.trans e2) hS) hl hg h0 h1)) fun p H3 np e3 hp => q p H3 (fresh_back (e1.trans e2) np) (e1.trans (e2.trans e3)) hp
/-! ### number_in -/
abbrev st_number_in : Stmt := topS 25
theorem sc_number_in : FnScope ["row", "named", "told", "found", "place", "often", "ahead", "some", "sign"] ["row"] (defScope st_number_in) := ⟨rfl, rfl, rfl, by decide +kernel, rfl, by decide +kernel, by decide +kernel⟩

def sp_number_in (K : PySem.W.Frag) : Sp := fun vs H Q _ => ∃ (a : Addr) (ns : List Int), vs = [.ref a] ∧ SqL K H a (ns.map V.int) ∧ ns.length ≤ 20 ∧ RetV (.int (numberF (patternF ns))) H Q
theorem ev_number_in {K : PySem.W.Frag} {H : Hp} {a : Addr} {ns : List Int} (h : SqL K H a (ns.map V.int)) (hl : ns.length ≤ 20) : SpV (sp_number_in K) [.ref a] H (.int (numberF (patternF ns))) :=
  spv fun H1 e Q q E => ⟨a, ns, rfl, ex_l e h, hl, q⟩
theorem d_number_in (G : Gs mg) (T : Ts K mg CA CC CN) (p : Pl K mg "number_in" st_number_in ["row"]) (D_pattern : Def P w K mg base CX0 3 "pattern" ["row"] (sp_pattern K)) (D_counts_of : Def P w K mg base CX0 1 "counts_of" ["row"] (sp_counts_of K)) : Def P w K mg base CX0 4 "number_in" ["row"] (sp_number_in K) := by
  refine p.ok (k := 3) sc_number_in (fun vs H Q E h => ?_) (fun f cdv A outer s H vs Q E hr h => ?_)
  · obtain ⟨a, ns, rfl, _⟩ := h
    rfl
  · obtain ⟨a, ns, rfl, hS, hl, q⟩ := h
    refine ⟨_, (pss_cons (ps_set (i := 1) sc_number_in.nd rfl (.inl rfl) (pe_fn D_pattern (by decide) hr (by rfl) pass0 (pa_cons (pv 0) pa_nil)))
      (pss_cons (ps_set (i := 2) sc_number_in.nd rfl (.inl rfl) (pe_fn D_counts_of (by decide) hr (by rfl) pass0 (pa_cons (pv 1) pa_nil)))
      (pss_cons (ps_set (i := 3) sc_number_in.nd rfl (.inl rfl) pe_int)
      (pss_cons (ps_for PassesOwn.never rfl (pi_enum (by rfl) G.n_enumerate (pa_cons (pv 2) pa_nil)) (pg_tup rfl (pgs_cons (pg_name (i := 4) sc_number_in.nd rfl (.inl rfl)) (pgs_cons (pg_name (i := 5) sc_number_in.nd rfl (.inr rfl)) pgs_nil)))
      (pss_one (ps_if (pt_cmpR op_gt (pv 5) pe_int (nomark _))
      (pss_cons (ps_set (i := 6) sc_number_in.nd rfl (.inr rfl) (pe_slice sl_list (pv 1) po_none (po_some (pv 4))))
      (pss_cons (ps_setLc (i := 7) (own := [("sign", 8)]) (g := (gName 8)) (tt := (tTest (tOp _ (tBM K "list" (rCntI K) (tVar 6) (tCons (tVar 8) tNil)) (tVar 5)))) (te := (tVar 8)) rfl sc_number_in.nd rfl rfl (sw_true rfl rfl rfl (by decide +kernel)) (pi_range1 (by rfl) G.n_range (pa_cons (pe_lenSetD rfl (by rfl) G.n_len (by rfl) G.n_set (pv 6)) pa_nil)) (blkOk_by (own := [("sign", 8)]) (N := ["row", "named", "told", "found", "place", "often", "ahead", "some", "sign"]) (sc := defScope st_number_in) (by decide +kernel)) (fun _ _ _ _ _ => (pg_name (i := 8) sc_number_in.nd rfl (.inl rfl))) (fun _ _ _ _ _ => (pts_one (pt_cmpR op_eq (pe_bm PySem.F.plainAttrs_list PySem.F.slot_list_count PySem.F.type_list_count mt_lcount (pv 6) (pa_cons (pv 8) pa_nil)) (pv 5) (nomark _)))) (fun _ _ _ _ _ => (pv 8)))
      (pss_one (ps_set (i := 3) sc_number_in.nd rfl (.inl rfl) (pe_op op_add (pe_op op_mul (pv 3) (pe_callB call_len_seq (by rfl) G.n_len (by decide +kernel) (pa_cons (pv 7) pa_nil))) (pe_bm PySem.F.plainAttrs_list PySem.F.slot_list_index PySem.F.type_list_index mt_index (pv 7) (pa_cons (pe_ix ix_list (pv 1) (pv 4) (fun _ _ => rfl)) pa_nil)))))))
      pss_nil)))
      (pss_one (ps_ret (pv 3))))))), ?_⟩
    refine q_asgL (el_call (ea_cons (ev_var rfl) ea_nil) (el_pattern hS hl)) fun pn H1 npn e1 hpn => ?_
    have hP : IsPat (patternF ns) := pattern_isPat ns
    have hPl : (patternF ns).length ≤ 20 := by rw [patternF_len]; exact hl
    revert hpn hP hPl q
    generalize patternF ns = p
    intro q hpn hp hPl
    refine q_asgL (el_call (ea_cons (ev_var rfl) ea_nil) (el_counts_of (sq_of hpn) (by omega))) fun pt H2 npt e2 hpt => ?_
    refine q_asg (v := .int 0) ev_c fun H3 e3 => ?_
    refine q_forE (a := pt) (xs := (countsF p).map V.int) (ev_var rfl) (sq_of (e3 _ _ hpt)) (fun i σ' H' => ∃ y4 y5 y6 y7 y8, σ' = [some (.ref a), some (.ref pn), some (.ref pt), some (.int (horn p i)), y4, y5, y6, y7, y8] ∧ Ex H2 H') (fun H4 e4 => ⟨_, _, _, _, _, rfl, e3.trans e4⟩)
      (fun i σ' H' _ hI => by obtain ⟨_, _, _, _, _, _, e⟩ := hI; exact sq_of (e _ _ hpt)) (fun i x σ' H' T hi hI nT => ?_) (fun σ' H' hI => ?_)
    · obtain ⟨y4, y5, y6, y7, y8, rfl, eH⟩ := hI
      obtain ⟨t, ht, rfl⟩ := int_at hi
      have hi' : i < (countsF p).length := (List.getElem?_eq_some_iff.mp ht).1
      rw [countsF_len] at hi'
      have et : (countsF p).getD i 0 = t := by rw [List.getD_eq_getElem?_getD, ht]; rfl
      have eH3 : Ex H2 (upd H' T (.tup [.int (i : Int), .int t])) := eH.trans (Ex.new nT)
      revert eH3
      generalize upd H' T (.tup [.int (i : Int), .int t]) = H4
      intro eH3
      have hpn4 := (e2.trans eH3) _ _ hpn
      refine s_when (et_test (ev_op (ev_var rfl) ev_c rv_I0)) (fun hb H5 e5 => ?_) (fun hb H5 e5 => ?_)
      · have hb' : 0 < t := of_decide_eq_true hb
        have hpi := hp.take' (i := i) (by omega)
        have hkl := knownF_le (p.take i)
        rw [List.length_take] at hkl
        refine q_asgL (el_is (el_sl (ev_var rfl) eo_none (eo_some (ev_var rfl)) (sq_of (e5 _ _ hpn4))) (cut_to p i)) fun pa H6 npa e6 hpa => ?_
        refine q_asgL (xs := (someF (p.take i) t).map V.int) (el_is (el_lcR1 (n := (knownF (p.take i) : Int)) (fun k => decide ((((p.take i).count (k : Int) : Nat) : Int) = t)) (fun k => .int (k : Int)) (ea_cons (ev_lenSet (ev_var rfl) (sq_of hpa) (by rw [List.length_take]; omega)) ea_nil) ⟨by omega, by omega⟩ (fun x => rfl) (fun k H7 e7 hk => et_test (ev_is (ev_op (ev_count (ev_var rfl) (sq_of (e7 _ _ hpa)) (ev_var rfl)) (ev_var rfl) (rv_eq rfl)) ?_)) (fun k H7 e7 hk _ => ev_var rfl)) ?_) fun ps H7 nps e7 hps => ?_
        · rw [dec_int]
          congr 1
        · rw [Int.toNat_natCast]
          exact given_some hpi hb'
        · have hlen := some_left hp hi'
          have hsm := hp.some_at hi'
          have hbd := (leftF_bd (countsF p) i).2
          rw [countsF_len] at hbd
          rw [et] at hlen hsm
          have hdg : ((someF (p.take i) t).idxOf (p.getD i 0)) = digit p i := by unfold digit; rw [et]
          refine s_asg (v := .int (horn p (i + 1))) (ev_is (ev_op (ev_op (ev_var rfl) (ev_len (ev_var rfl) (sq_of hps)) (rv_I (.inr ⟨by omega, by rw [List.length_map]; omega⟩))) (ev_index (ev_var rfl) (sq_of hps) (ev_op (ev_var rfl) (ev_var rfl) (rv_ixL (sq_of ((e5.trans (e6.trans e7)) _ _ hpn4)) (at_ints hi'))) hsm) rv_I0) ?_) fun H8 e8 => ⟨_, _, _, _, _, rfl, eH3.trans (e5.trans (e6.trans (e7.trans e8)))⟩
          rw [List.length_map, hlen, hdg]
          rfl
      · have hb' : ¬ 0 < t := of_decide_eq_false hb
        obtain ⟨h1, h2⟩ := digit_new hp hi' (by rw [et]; omega)
        refine ⟨some (.int (i : Int)), some (.int t), y6, y7, y8, ?_, eH3.trans e5⟩
        have : horn p (i + 1) = horn p i := by
          show horn p i * leftF (countsF p) i + (digit p i : Int) = horn p i
          rw [h1, h2]; simp
        rw [this]
        rfl
    · obtain ⟨y4, y5, y6, y7, y8, rfl, eH⟩ := hI
      rw [List.length_map, countsF_len, horn_all]
      exact s_ret (ev_var rfl) fun H4 e4 => q H4 (e1.trans (e2.trans (eH.trans e4)))
/-! ### comes -/
abbrev st_comes : Stmt := topS 26
theorem sc_comes : FnScope ["row", "place"] ["row"] (defScope st_comes) := ⟨rfl, rfl, rfl, by decide +kernel, rfl, by decide +kernel, by decide +kernel⟩

def sp_comes (K : PySem.W.Frag) (CC CN : Addr) : Sp := fun vs H Q _ => ∃ (a : Addr) (ns : List Int), vs = [.ref a] ∧ SqL K H a (ns.map V.int) ∧ ns.length ≤ 20 ∧
  (Good ns → ∀ x p H2, H x = none → H p = none → Ex H H2 → IsComes CC H2 x p (patF ns 0) → Q (.ref x) H2) ∧ (¬ Good ns → ∀ x H2, H x = none → Ex H H2 → IsNever CN H2 x (firstWrongF ns) → Q (.ref x) H2)
theorem ec_comes {K : PySem.W.Frag} {CC CN : Addr} {σ : L2.St} {H : Hp} {te : TE} {E : XK} {a : Addr} {ns : List Int} (h : Ev te σ H (.ref a)) (hS : SqL K H a (ns.map V.int)) (hl : ns.length ≤ 20) (hg : Good ns) : EvComes CC (tCall (sp_comes K CC CN) [] E (tCons te tNil)) σ H (patF ns 0) := fun H1 e Q q =>
  h H1 e _ fun H2 e2 => ⟨a, ns, rfl, ex_l (e.trans e2) hS, hl, fun _ x p H3 nx np e3 hc => q x p H3 (fresh_back e2 nx) (fresh_back e2 np) (e2.trans e3) hc, fun hb => absurd hg hb⟩
theorem en_comes {K : PySem.W.Frag} {CC CN : Addr} {σ : L2.St} {H : Hp} {te : TE} {E : XK} {a : Addr} {ns : List Int} (h : Ev te σ H (.ref a)) (hS : SqL K H a (ns.map V.int)) (hl : ns.length ≤ 20) (hg : ¬ Good ns) : EvNever CN (tCall (sp_comes K CC CN) [] E (tCons te tNil)) σ H (firstWrongF ns) := fun H1 e Q q =>
  h H1 e _ fun H2 e2 => ⟨a, ns, rfl, ex_l (e.trans e2) hS, hl, fun hb => absurd hb hg, fun _ x H3 nx e3 hc => q x H3 (fresh_back e2 nx) (e2.trans e3) hc⟩
theorem ec_comesN {K : PySem.W.Frag} {CC CN : Addr} {σ : L2.St} {H : Hp} {te : TE} {E : XK} {ns : List Int} (h : EvL te σ H (ns.map V.int)) (hl : ns.length ≤ 20) (hg : Good ns) : EvComes CC (tCall (sp_comes K CC CN) [] E (tCons te tNil)) σ H (patF ns 0) := fun H1 e Q q =>
  h H1 e _ fun a H2 na e2 ha => ⟨a, ns, rfl, sq_of ha, hl, fun _ x p H3 nx np e3 hc => q x p H3 (fresh_back e2 nx) (fresh_back e2 np) (e2.trans e3) hc, fun hb => absurd hg hb⟩
theorem en_comesN {K : PySem.W.Frag} {CC CN : Addr} {σ : L2.St} {H : Hp} {te : TE} {E : XK} {ns : List Int} (h : EvL te σ H (ns.map V.int)) (hl : ns.length ≤ 20) (hg : ¬ Good ns) : EvNever CN (tCall (sp_comes K CC CN) [] E (tCons te tNil)) σ H (firstWrongF ns) := fun H1 e Q q =>
  h H1 e _ fun a H2 na e2 ha => ⟨a, ns, rfl, sq_of ha, hl, fun hb => absurd hb hg, fun _ x H3 nx e3 hc => q x H3 (fresh_back e2 nx) (e2.trans e3) hc⟩
theorem d_comes (G : Gs mg) (T : Ts K mg CA CC CN) (p : Pl K mg "comes" st_comes ["row"]) (D_check_row : Def P w K mg base CX0 2 "check_row" ["row"] (sp_check_row K)) (D_first_wrong : Def P w K mg base CX0 2 "first_wrong" ["row"] (sp_first_wrong K)) (D_Never___init__ : Mkd P w K mg base CX0 1 "Never" CN ["self", "place"] (sp_Never___init__ K CC CN)) (D_Comes___init__ : Mkd P w K mg base CX0 1 "Comes" CC ["self", "signs"] (sp_Comes___init__ K CC CN)) (D_pattern_of : Def P w K mg base CX0 3 "pattern_of" ["row", "number"] (sp_pattern_of K)) : Def P w K mg base CX0 4 "comes" ["row"] (sp_comes K CC CN) := by
  refine p.ok (k := 3) sc_comes (fun vs H Q E h => ?_) (fun f cdv A outer s H vs Q E hr h => ?_)
  · obtain ⟨a, ns, rfl, _⟩ := h
    rfl
  · obtain ⟨a, ns, rfl, hS, hl, qG, qB⟩ := h
    refine ⟨_, (pss_cons (ps_expr (pe_fn D_check_row (by decide) hr (by rfl) pass0 (pa_cons (pv 0) pa_nil)))
      (pss_cons (ps_set (i := 1) sc_comes.nd rfl (.inl rfl) (pe_fn D_first_wrong (by decide) hr (by rfl) pass0 (pa_cons (pv 0) pa_nil)))
      (pss_one (ps_ret (pe_ifExp (pt_cmpR op_ge (pv 1) pe_int (nomark _)) (pe_mk D_Never___init__ (by decide) hr (by rfl) pass0 (pa_cons (pv 1) pa_nil)) (pe_mk D_Comes___init__ (by decide) hr (by rfl) pass0 (pa_cons (pe_fn D_pattern_of (by decide) hr (by rfl) pass0 (pa_cons (pv 0) (pa_cons pe_int pa_nil))) pa_nil))))))), ?_⟩
    refine q_drop (ev_call (ea_cons (ev_var rfl) ea_nil) (ev_check_row hS hl)) fun H1 e1 => ?_
    refine q_asg (v := .int (firstWrongF ns)) (ev_call (ea_cons (ev_var rfl) ea_nil) (ev_first_wrong (ex_l e1 hS) (by omega))) fun H2 e2 => ?_
    refine et_test (ev_op (ev_var rfl) ev_c rv_I0) H2 (Ex.refl _) _ fun H3 e3 => ?_
    by_cases hg : Good ns
    · have hf := firstWrong_good.mpr hg
      rw [decide_eq_false (by rw [hf]; decide)]
      exact iteF (ec_makeN (el_call (ea_cons (ev_var rfl) (ea_cons ev_c ea_nil)) (el_pattern_of (ex_l (e1.trans (e2.trans e3)) hS) hl hg (by decide) (manyF_pos hg))) H3 (Ex.refl _) _ fun x p H4 nx np e4 hc => qG hg x p H4 (fresh_back (e1.trans (e2.trans e3)) nx) (fresh_back (e1.trans (e2.trans e3)) np) (e1.trans (e2.trans (e3.trans e4))) hc)
    · obtain ⟨i, hf, _⟩ := firstWrong_bad hg
      rw [decide_eq_true (by rw [hf]; omega)]
      exact iteT (en_make (ev_var rfl) H3 (Ex.refl _) _ fun x H4 nx e4 hc => qB hg x H4 (fresh_back (e1.trans (e2.trans e3)) nx) (e1.trans (e2.trans (e3.trans e4))) hc)
/-! ### wider -/
abbrev st_wider : Stmt := topS 28
theorem sc_wider : FnScope ["shape", "found", "number", "often"] ["shape"] (defScope st_wider) := ⟨rfl, rfl, rfl, by decide +kernel, rfl, by decide +kernel, by decide +kernel⟩

def sp_wider (K : PySem.W.Frag) : Sp := fun vs H Q _ => ∃ (sh : Addr) (shape : List Int), vs = [.ref sh] ∧ H sh = some (.tup (shape.map V.int)) ∧ shape.length ≤ 20 ∧ ∀ p us H2, H p = none → Ex H H2 → H2 p = some (.lst us) → WiAt H2 us (widerF shape) → Q (.ref p) H2
theorem atI_int {ns : List Int} {i : Int} (h0 : 0 ≤ i) (h1 : i < (ns.length : Int)) : atI (ns.map V.int) i = some (.int (ns.getD i.toNat 0)) := by
  have e : i = ((i.toNat : Nat) : Int) := by omega
  rw [e]
  have := at_ints (ns := ns) (i := i.toNat) (by omega)
  rw [this, Int.toNat_natCast]
theorem dec_int' (i j : Nat) : decide (V.int (i : Int) = V.int (j : Int)) = decide (i = j) := by
  rw [dec_int]
  by_cases e : i = j
  · subst e; simp
  · rw [decide_eq_false e, beq_eq_false_iff_ne]; omega
theorem q_wider {K : PySem.W.Frag} {σ : L2.St} {H : Hp} {te : TE} {E : XK} {D : Ends} {tz : TS} {sh : Addr} {shape : List Int} {i : Nat} (h : Ev te σ H (.ref sh)) (hsh : H sh = some (.tup (shape.map V.int))) (hl : shape.length ≤ 20)
    (k : ∀ p us H2, H p = none → Ex H H2 → H2 p = some (.lst us) → WiAt H2 us (widerF shape) → tz D (σ.set i (some (.ref p))) H2) : tSeq (tAsg (tCall (sp_wider K) [] E (tCons te tNil)) (gName i)) tz D σ H :=
  h H (Ex.refl _) _ fun H1 e1 => ⟨sh, shape, rfl, e1 _ _ hsh, hl, fun p us H2 np e2 hp hw => k p us H2 (fresh_back e1 np) (e1.trans e2) hp hw⟩
theorem q_forWi {K : PySem.W.Frag} {σ : L2.St} {H : Hp} {te : TE} {E : XK} {D : Ends} {tu tz : TS} {g : TG} {sh : Addr} {shape : List Int} (h : Ev te σ H (.ref sh)) (hsh : H sh = some (.tup (shape.map V.int))) (hl : shape.length ≤ 20)
    (k : ∀ pw us H5, H pw = none → Ex H H5 → H5 pw = some (.lst us) → WiAt H5 us (widerF shape) → ∃ Pv : Nat → L2.St → Hp → Prop, Pv 0 σ H5 ∧ (∀ j σ2 H2, Pv j σ2 H2 → SqL K H2 pw us) ∧ (∀ j x σ2 H2, us[j]? = some x → Pv j σ2 H2 → g x σ2 H2 fun σ3 H3 => tu { D with nx := Pv (j + 1), ct := Pv (j + 1), bk := tz D } σ3 H3) ∧ (∀ σ2 H2, Pv us.length σ2 H2 → tz D σ2 H2)) :
    tSeq (tFor (iList K (tCall (sp_wider K) [] E (tCons te tNil))) g tu) tz D σ H :=
  h H (Ex.refl _) _ fun H1 e1 => ⟨sh, shape, rfl, e1 _ _ hsh, hl, fun p us H2 np e2 hp hw => by
    obtain ⟨Pv, a, b, c, d⟩ := k p us H2 (fresh_back e1 np) (e1.trans e2) hp hw
    exact ⟨p, rfl, ⟨us, sq_of hp⟩, for_list (D := { D with nx := tz D }) Pv a (fun i σ2 H2 _ => b i σ2 H2) c d⟩⟩
theorem d_wider (G : Gs mg) (T : Ts K mg CA CC CN) (p : Pl K mg "wider" st_wider ["shape"])  : Def P w K mg base CX0 1 "wider" ["shape"] (sp_wider K) := by
  refine p.ok (k := 0) sc_wider (fun vs H Q E h => ?_) (fun f cdv A outer s H vs Q E hr h => ?_)
  · obtain ⟨sh, shape, rfl, _⟩ := h
    rfl
  · obtain ⟨sh, shape, rfl, hS, hl, q⟩ := h
    refine ⟨_, (pss_cons (ps_set (i := 1) sc_wider.nd rfl (.inl rfl) (pe_lst pa_nil))
      (pss_cons (ps_for PassesOwn.never rfl (pi_range1 (by rfl) G.n_range (pa_cons (pe_op op_add (pe_callB call_len_seq (by rfl) G.n_len (by decide +kernel) (pa_cons (pv 0) pa_nil)) pe_int) pa_nil)) (pg_name (i := 2) sc_wider.nd rfl (.inl rfl))
      (pss_one (ps_if (PW.pt (pw_or (pt_cmpR op_eq (pv 2) pe_int (nomark _)) (pw_or (pt_cmpR op_eq (pv 2) (pe_callB call_len_seq (by rfl) G.n_len (by decide +kernel) (pa_cons (pv 0) pa_nil)) (nomark _)) (pw_or1 (pt_cmpR op_lt (pe_ix ix_tup (pv 0) (pv 2) (fun _ _ => rfl)) (pe_ix ix_tup (pv 0) (pe_op op_sub (pv 2) pe_int) (fun _ _ => rfl)) (nomark _))))))
      (pss_cons (ps_set (i := 3) sc_wider.nd rfl (.inl rfl) (pe_ifExp (pt_cmpR op_lt (pv 2) (pe_callB call_len_seq (by rfl) G.n_len (by decide +kernel) (pa_cons (pv 0) pa_nil)) (nomark _)) (pe_op op_add (pe_ix ix_tup (pv 0) (pv 2) (fun _ _ => rfl)) pe_int) pe_int))
      (pss_one (ps_expr (pe_bm PySem.F.plainAttrs_list PySem.F.slot_list_append PySem.F.type_list_append mt_append (pv 1) (pa_cons (pe_tup (pa_cons (pv 2) (pa_cons (pe_op op_catA (pe_op op_catA (pe_slice sl_tupA (pv 0) po_none (po_some (pv 2))) (pe_tup (pa_cons (pv 3) pa_nil))) (pe_slice sl_tupA (pv 0) (po_some (pe_op op_add (pv 2) pe_int)) po_none)) pa_nil))) pa_nil)))))
      pss_nil)))
      (pss_one (ps_ret (pv 1))))), ?_⟩
    refine q_asgL (xs := []) (el_lst ea_nil (by decide)) fun l H1 nl e1 hl1 => ?_
    refine q_forR1 (n := ((shape.length + 1 : Nat) : Int)) (ea_cons (ev_is (ev_op (ev_lenT (ev_var rfl) (st_of (e1 _ _ hS))) ev_c rv_I0) (by rw [List.length_map]; rfl)) ea_nil) ⟨by omega, by omega⟩
      (fun i σ' H' => ∃ y2 y3 us, σ' = [some (.ref sh), some (.ref l), y2, y3] ∧ Ex H H' ∧ H' l = some (.lst us) ∧ WiAt H' us (((List.range i).filter (condW shape)).map fun i => (i, bumpF shape i)))
      (fun H2 e2 => ⟨_, _, [], rfl, e1.trans e2, e2 _ _ hl1, .nil⟩) (fun i σ' H' hi hP => ?_) (fun σ' H' hP => ?_)
    · obtain ⟨y2, y3, us, rfl, eH, hl', hw⟩ := hP
      have hi' : i ≤ shape.length := by omega
      have hS' := eH _ _ hS
      have hsq := st_of (K := K) hS'
      have hlen : us.length ≤ 40 := by
        rw [hw.len, List.length_map]
        have := List.length_filter_le (condW shape) (List.range i)
        rw [List.length_range] at this
        omega
      refine s_when (b := condW shape i) (et_is (et_or (a := decide (i = 0)) (b := decide (i = shape.length) || decide (shape.getD i 0 < shape.getD (i - 1) 0)) (et_test (ev_is (ev_op (ev_var rfl) ev_c (rv_eq rfl)) (by rw [← dec_int' i 0]; rfl))) fun h0 => et_or (et_test (ev_is (ev_op (ev_var rfl) (ev_lenT (ev_var rfl) hsq) (rv_eq rfl)) (by rw [List.length_map, dec_int']))) fun h1 => ?_) rfl) (fun hb H2 e2 => ?_) (fun hb H2 e2 => ?_)
      · have h0' := of_decide_eq_false h0
        have h1' := of_decide_eq_false h1
        exact et_test (ev_op (ev_op (ev_var rfl) (ev_var rfl) (rv_ixT hsq (at_ints (by omega)))) (ev_op (ev_var rfl) (ev_is (w := .int ((i - 1 : Nat) : Int)) (ev_op (ev_var rfl) ev_c rv_I0) (by congr 1; omega)) (rv_ixT hsq (at_ints (by omega)))) rv_I0)
      · have hS2 := e2 _ _ hS'
        refine q_asg (v := .int (if i < shape.length then shape.getD i 0 + 1 else 1)) (ev_if (b := decide (i < shape.length)) (et_test (ev_is (ev_op (ev_var rfl) (ev_lenT (ev_var rfl) (st_of (K := K) hS2)) rv_I0) (by rw [List.length_map]; congr 1; simp))) (fun hc => ?_) (fun hc => ?_)) fun H3 e3 => ?_
        · have hc' := of_decide_eq_true hc
          rw [if_pos hc']
          exact ev_op (ev_op (ev_var rfl) (ev_var rfl) (rv_ixT (st_of (K := K) hS2) (at_ints hc'))) ev_c rv_I0
        · have hc' := of_decide_eq_false hc
          rw [if_neg hc']
          exact ev_c
        have hS3 := e3 _ _ hS2
        refine s_appWi (ys := (bumpF shape i).map V.int) ((e2.trans e3) _ _ hl') (ev_var rfl) (ev_var rfl) (etu_is (etu_cat (etu_cat (etu_is (etu_sl (ev_var rfl) eo_none (eo_some (ev_var rfl)) hS3) (cut_to shape i)) (etu_tup (ea_cons (ev_var rfl) ea_nil) (show 1 ≤ 100000 by decide)) (by rw [List.length_map, List.length_take]; show _ + 1 ≤ _; omega)) (etu_is (etu_sl (ev_var rfl) (eo_some (ev_is (w := .int ((i + 1 : Nat) : Int)) (ev_op (ev_var rfl) ev_c rv_I0) (by congr 1))) eo_none hS3) (cut_from shape (i + 1))) (by rw [List.length_append, List.length_map, List.length_map, List.length_take, List.length_drop]; show _ + 1 + _ ≤ _; omega)) (by unfold bumpF; rw [List.map_append, List.map_append]; rfl)) (by omega) fun t sh2 H4 e4 ht hsh2 => ?_
        have hl4 := (e2.trans (e3.trans e4)) _ _ hl'
        have keep : ∀ a ys, H4 a = some (.tup ys) → (upd H4 l (.lst (us ++ [.ref t]))) a = some (.tup ys) := fun a ys ha => by rw [upd_ne (ne_of ha hl4 (fun z => nomatch z))]; exact ha
        refine ⟨_, _, us ++ [.ref t], rfl, Ex.mut (eH.trans (e2.trans (e3.trans e4))) nl, upd_same, ?_⟩
        rw [List.range_succ, List.filter_append, List.map_append, List.filter_cons, if_pos hb]
        exact WiAt.snoc (p := (i, bumpF shape i)) (keep _ _ ht) (keep _ _ hsh2) ((hw.mono fun a ys ha => (e2.trans (e3.trans e4)) _ _ ha).mono keep)
      · refine ⟨_, _, us, rfl, eH.trans e2, e2 _ _ hl', ?_⟩
        rw [List.range_succ, List.filter_append, List.map_append, List.filter_cons, if_neg (by rw [hb]; decide)]
        simp only [List.filter_nil, List.map_nil, List.append_nil]
        exact hw.mono fun a ys ha => e2 _ _ ha
    · obtain ⟨y2, y3, us, rfl, eH, hl', hw⟩ := hP
      rw [Int.toNat_natCast] at hw
      exact s_ret (ev_var rfl) fun H2 e2 => q l us H2 nl (eH.trans e2) (e2 _ _ hl') (hw.mono fun a ys ha => e2 _ _ ha)
/-! ### ways_on -/
abbrev st_ways_on : Stmt := topS 29
theorem sc_ways_on : FnScope ["shape", "left", "known", "spot", "number", "more"] ["shape", "left", "known"] (defScope st_ways_on) := ⟨rfl, rfl, rfl, by decide +kernel, rfl, by decide +kernel, by decide +kernel⟩

def sp_ways_onN (K : PySem.W.Frag) (P : Program) (w : World) (n : Nat) : Sp := fun vs H Q _ => ∃ (sh kd : Addr) (shape : List Int) (left N : Nat), vs = [.ref sh, .int (left : Int), .ref kd] ∧ H sh = some (.tup (shape.map V.int)) ∧ IsShape shape ∧ shape.sum + (left : Int) = (N : Int) ∧ N ≤ 20 ∧ left < n ∧ Memo P w N H kd ∧ ∀ H2, ExB kd H H2 → Memo P w N H2 kd → Q (.int (waysF shape left)) H2
abbrev sp_ways_on (K : PySem.W.Frag) (P : Program) (w : World) : Sp := sp_ways_onN K P w 21
theorem Memo.updL {P : Program} {w : World} {N : Nat} {H : Hp} {kd l : Addr} {xs ys : List V} (m : Memo P w N H kd) (hl : H l = some (.lst xs)) : Memo P w N (upd H l (.lst ys)) kd := by
  obtain ⟨es, h1, h2, h3⟩ := m
  exact ⟨es, by rw [upd_ne (ne_of h1 hl (fun z => nomatch z))]; exact h1, fun x hx => (h2 x hx).mono fun a ts ha => by rw [upd_ne (ne_of ha hl (fun z => nomatch z))]; exact ha, h3⟩
theorem exb_upd {kd l : Addr} {H H' : Hp} {o : HO} (e : ExB kd H H') (n : H l = none) : ExB kd H (upd H' l o) := fun a u hn h => by rw [upd_ne (ne_of_none h n)]; exact e a u hn h
theorem rd_nputC {P : Program} {w : World} {td ty tl : TE} {r : List V → Hp → VK → Prop} {D : Ends} {σ : L2.St} {H : Hp} (h : tl σ H fun x0 H0 => r [x0] H0 fun v H1 => td σ H1 fun x H2 => ty σ H2 fun y H3 => ∃ (t a : Addr) (shape : List Int) (left : Int) (xs : List NEnt), x = .ref a ∧ y = .ref t ∧ KeyAt H3 t shape left ∧ H3 a = some (NDict P w a xs) ∧ Keyed2 H3 xs ∧ xs.length < sizeLine ∧
  ∀ u, RelV v u → D.nx σ (upd H3 a (NDict P w a (storedH xs (nk shape left) t u)))) : sNPut P w td ty (tCB r (tCons tl tNil)) D σ H := h
theorem rd_yes {A B : Hp → Prop} {σ : L2.St} {H : Hp} (h : A H) : tYes σ H (fun b H3 => if b = true then A H3 else B H3) := by
  show if true = true then A H else B H
  exact iteT h
theorem evm_ways {K : PySem.W.Frag} {P : Program} {w : World} {N : Nat} {kd sh : Addr} {σ : L2.St} {H : Hp} {ta : TA} {E : XK} {shape : List Int} {left : Nat} (h : EvA ta σ (del H kd) [.ref sh, .int (left : Int), .ref kd]) (hne : sh ≠ kd) (hsh : H sh = some (.tup (shape.map V.int))) (hS : IsShape shape) (hsum : shape.sum + (left : Int) = (N : Int)) (hN : N ≤ 20) :
    EvM P w N kd (tCall (sp_ways_on K P w) [] E ta) σ H (.int (waysF shape left)) := fun H1 e m Q q =>
  h H1 e.del _ fun H2 e2 => ⟨sh, kd, shape, left, N, rfl, e2 _ _ (e _ _ hne hsh), hS, hsum, hN, by have := shape_len hS.2; omega, m.mono e2, fun H3 e3 m3 => q H3 ((ExB.of e2).trans e3) m3⟩
theorem d_ways_onN (G : Gs mg) (p : Pl K mg "ways_on" st_ways_on ["shape", "left", "known"]) (D_wider : Def P w K mg base CX0 1 "wider" ["shape"] (sp_wider K)) : ∀ n : Nat, Def P w K mg base CX0 (n + 1) "ways_on" ["shape", "left", "known"] (sp_ways_onN K P w n) := by
  intro n
  induction n with
  | zero =>
    obtain ⟨f, fd, F, hm, hb⟩ := p.ex
    exact ⟨f, fd, ⟨fun vs H Q E h => by obtain ⟨_, _, _, _, _, _, _, _, _, _, z, _⟩ := h; exact absurd z (Nat.not_lt_zero _), fun A outer s H args us vs Q E _ _ _ _ h => by obtain ⟨_, _, _, _, _, _, _, _, _, _, z, _⟩ := h; exact absurd z (Nat.not_lt_zero _)⟩, hm, F.kp, hb⟩
  | succ n D_ways_onN =>
    refine p.ok (k := n + 1) sc_ways_on (fun vs H Q E h => ?_) (fun f cdv A outer s H vs Q E hr h => ?_)
    · obtain ⟨sh, kd, shape, left, N, rfl, _⟩ := h
      rfl
    · obtain ⟨sh, kd, shape, left, N, rfl, hsh, hS, hsum, hN, hleft, hM, q⟩ := h
      refine ⟨_, (pss_cons (ps_if (pt_cmpR op_eq (pv 1) pe_int (nomark _))
(pss_one (ps_ret pe_int))
pss_nil)
(pss_cons (ps_set (i := 3) sc_ways_on.nd rfl (.inl rfl) (pe_tup (pa_cons (pv 0) (pa_cons (pv 1) pa_nil))))
(pss_cons (ps_if (pt_cmpR (op_notInN hr.units) (pv 3) (pv 2) (by rfl))
(pss_one (ps_nput hr.units (pv 2) (pv 3) (pe_callB (cr_sum rfl) (by rfl) G.n_sum (by decide +kernel) (pa_cons (pe_lc (own := [("number", 4), ("more", 5)]) (g := (gTup K 2 (gCons (gName 4) (gCons (gName 5) gNil)))) (tt := tYes) (te := (tCall (sp_ways_onN K P w n) [] _ (tCons (tVar 5) (tCons (tOp _ (tVar 1) (tC _)) (tCons (tVar 2) tNil))))) rfl sc_ways_on.nd (pi_list (pe_fn D_wider (by omega) hr (by rfl) pass0 (pa_cons (pv 0) pa_nil))) (blkOk_by (own := [("number", 4), ("more", 5)]) (N := ["shape", "left", "known", "spot", "number", "more"]) (sc := defScope st_ways_on) (by decide +kernel)) (fun _ _ _ _ _ => (pg_tup rfl (pgs_cons (pg_name (i := 4) sc_ways_on.nd rfl (.inl rfl)) (pgs_cons (pg_name (i := 5) sc_ways_on.nd rfl (.inl rfl)) pgs_nil)))) (fun _ _ _ _ _ => pts_nil) (fun _ _ _ _ _ => (pe_fn D_ways_onN (by omega) hr (by rfl) pass0 (pa_cons (pv 5) (pa_cons (pe_op op_sub (pv 1) pe_int) (pa_cons (pv 2) pa_nil)))))) pa_nil)) rfl))
pss_nil)
(pss_one (ps_ret (pe_nget hr.units (pv 2) (pv 3) (fun _ _ => rfl))))))), ?_⟩
      have hsl := shape_len hS.2
      refine q_when (b := decide (left = 0)) (et_test (ev_is (ev_op (ev_var rfl) ev_c (rv_eq rfl)) (by rw [← dec_int' left 0]; rfl))) (fun hb H1 e1 => ?_) (fun hb H1 e1 => ?_)
      · have hb' := of_decide_eq_true hb
        subst hb'
        exact s_ret (v := .int 1) ev_c fun H2 e2 => q H2 (ExB.of (e1.trans e2)) (hM.mono (e1.trans e2))
      have hb' := of_decide_eq_false hb
      refine q_asgU (eu_tup (ea_cons (ev_var rfl) (ea_cons (ev_var rfl) ea_nil)) (show 2 ≤ 100000 by decide)) fun t H2 nt e2 ht => ?_
      have hkey2 : KeyAt H2 t shape (left : Int) := ⟨sh, ht, (e1.trans e2) _ _ hsh⟩
      obtain ⟨xs, hd2, hx2, hn2⟩ := hM.mono (e1.trans e2)
      -- what is handed back
      have fin : ∀ (σ' : L2.St) (H3 : Hp) (ys : List NEnt) (b : Addr) (u : Value), σ'[2]? = some (some (.ref kd)) → σ'[3]? = some (some (.ref t)) → ExB kd H H3 → KeyAt H3 t shape (left : Int) → H3 kd = some (NDict P w kd ys) → (∀ x ∈ ys, Ent H3 N x) → (ys.map (·.1)).Nodup → atKey ys (nk shape (left : Int)) = some (b, u) →
          tRet (tNGet P w (tVar 2) (tVar 3)) { nx := fun _ H' => Q .non H', rt := Q } σ' H3 := fun σ' H3 ys b u g2 g3 eB hk hd hy hn ha => by
        obtain ⟨tk, hu⟩ := Memo.hit hy ha
        exact ⟨_, g2, _, g3, t, kd, shape, (left : Int), ys, b, .int (waysF shape left), u, rfl, rfl, hk, hd, Ent.keyed hy, ha, ⟨tk, hu⟩, q H3 eB ⟨ys, hd, hy, hn⟩⟩
      refine q_when (b := !(atKey xs (nk shape (left : Int))).isSome) (et_test (ev_op (ev_var rfl) (ev_var rfl) fun H3 e3 Q' q' => ⟨t, kd, shape, (left : Int), xs, rfl, rfl, hkey2.mono fun a ys h => e3 _ _ h, e3 _ _ hd2, Ent.keyed fun x hx => (hx2 x hx).mono fun a ys h => e3 _ _ h, q' H3 (Ex.refl _)⟩)) (fun hc H3 e3 => ?_) (fun hc H3 e3 => ?_)
      · have hnone : atKey xs (nk shape (left : Int)) = none := by
          cases z : atKey xs (nk shape (left : Int)) with
          | none => rfl
          | some y => rw [z] at hc; cases hc
        have eH3 : Ex H H3 := e1.trans (e2.trans e3)
        have hM3 := hM.mono eH3
        obtain ⟨l0, hl0⟩ : ∃ l0, left = l0 + 1 := ⟨left - 1, by omega⟩
        -- the sum
        refine rd_nputC ?_
        refine rd_call (ea_cons (ev_var rfl) ea_nil) fun H4 e4 => ⟨sh, shape, rfl, (eH3.trans e4) _ _ hsh, by omega, fun pw us H5 npw e5 hpw hw => ⟨pw, rfl, ⟨us, sq_of hpw⟩, fun Dl hD => ?_⟩⟩
        have hM5 := hM3.mono (e4.trans e5)
        have hkd5 : ∃ ys, H5 kd = some (NDict P w kd ys) := by obtain ⟨ys, h1, _⟩ := hM5; exact ⟨ys, h1⟩
        obtain ⟨ys5, hkd5⟩ := hkd5
        have nDk : Dl ≠ kd := (ne_of_none hkd5 hD).symm
        have nwk : pw ≠ kd := ne_of hpw hkd5 (fun z => nomatch z)
        refine lc_list (xs := us) (fun i H' => ExB kd H5 H' ∧ Memo P w N H' kd ∧ H' Dl = some (.lst ((((widerF shape).take i).map fun p => waysF p.2 l0).map V.int))) ⟨ExB.of (Ex.new hD), hM5.mono (Ex.new hD), upd_same⟩ (fun i H' _ hP => sq_of (hP.1 _ _ nwk hpw)) (fun i x H' hi hP => ?_) (fun H' hP => ?_)
        · obtain ⟨eB, hM', hDl⟩ := hP
          obtain ⟨pp, t2, sh2, hp1, rfl, ht2, hsh2⟩ := hw.at hi
          have n1 : t2 ≠ kd := ne_of ht2 hkd5 (fun z => nomatch z)
          have n2 : sh2 ≠ kd := ne_of hsh2 hkd5 (fun z => nomatch z)
          have hpm : pp ∈ widerF shape := List.mem_of_getElem? hp1
          obtain ⟨w1, w2, w3⟩ := wider_mem hpm
          refine ⟨t2, _, rfl, st_of (eB _ _ n1 ht2), rfl, _, _, rfl, _, _, rfl, rfl, rfl, ?_⟩
          refine rd_yes ?_
          refine rd_call (vs := [.ref sh2, .int ((l0 : Nat) : Int), .ref kd]) (ea_cons (ev_var rfl) (ea_cons (ev_is (ev_op (ev_var rfl) ev_c rv_I0) (by congr 1; omega)) (ea_cons (ev_var rfl) ea_nil))) fun H6 e6 => ⟨sh2, kd, pp.2, l0, N, rfl, e6 _ _ (eB _ _ n2 hsh2), wider_shape hS hpm, by rw [w3, bump_sum w1]; omega, hN, by omega, hM'.mono e6, fun H7 eB7 hM7 => ?_⟩
          have hDl7 := eB7 _ _ nDk (e6 _ _ hDl)
          refine ⟨_, hDl7, ?_, exb_upd (eB.trans ((ExB.of e6).trans eB7)) hD, hM7.updL hDl7, ?_⟩
          · rw [List.length_map, List.length_map, List.length_take]
            have hil := (List.getElem?_eq_some_iff.mp hi).1
            have hwl := hw.len
            have : (widerF shape).length ≤ shape.length + 1 := by
              unfold widerF
              rw [List.length_map]
              have := List.length_filter_le (condW shape) (List.range (shape.length + 1))
              rw [List.length_range] at this
              exact this
            exact sz_lt (by omega)
          · rw [upd_same, List.take_add_one, hp1]
            simp only [Option.toList_some, List.map_append, List.map_cons, List.map_nil]
        · obtain ⟨eB, hM', hDl⟩ := hP
          rw [hw.len, List.take_length] at hDl
          refine ⟨Dl, ((widerF shape).map fun p => waysF p.2 l0), rfl, sq_of hDl, ?_⟩
          -- known[spot] = ..
          have eB' : ExB kd H H' := (ExB.of (eH3.trans (e4.trans e5))).trans eB
          obtain ⟨zs, hz1, hz2, hz3⟩ := hM'
          have ht' : H' t = some (.tup [.ref sh, .int (left : Int)]) := eB _ _ (ne_of ht hd2 (fun z => nomatch z)) ((e3.trans (e4.trans e5)) _ _ ht)
          have hkey' : KeyAt H' t shape (left : Int) := ⟨sh, ht', eB' _ _ (by obtain ⟨ks, hk1, _⟩ := hM; exact ne_of hsh hk1 (fun z => nomatch z)) hsh⟩
          refine ⟨_, rfl, _, rfl, t, kd, shape, (left : Int), zs, rfl, rfl, hkey', hz1, Ent.keyed hz2, Memo.few hN hz2 hz3, fun u hu => ?_⟩
          obtain ⟨tk, hu⟩ := hu
          have hval : u = .int (waysF shape left) tk := by rw [hu, hl0]; rfl
          by_cases hz : atKey zs (nk shape (left : Int)) = none
          · have hput := Memo.put (a := kd) hz1 hz2 hz3 hz hkey' hS hsum hval
            obtain ⟨as, ha1, ha2, ha3⟩ := hput
            have ha1' := ha1
            rw [upd_same] at ha1'
            have hk2 : KeyAt (upd H' kd (NDict P w kd (storedH zs (nk shape (left : Int)) t u))) t shape (left : Int) := hkey'.mono fun a ts h => by rw [upd_ne (ne_of h hz1 (fun z => nomatch z))]; exact h
            have hst : (∀ x ∈ storedH zs (nk shape (left : Int)) t u, Ent (upd H' kd (NDict P w kd (storedH zs (nk shape (left : Int)) t u))) N x) ∧ ((storedH zs (nk shape (left : Int)) t u).map (·.1)).Nodup := by
              rw [storedH_new hz]
              refine ⟨fun x hx => ?_, ?_⟩
              · rcases List.mem_append.mp hx with g | g
                · exact (hz2 x g).mono fun a ts h => by rw [upd_ne (ne_of h hz1 (fun z => nomatch z))]; exact h
                · rw [List.mem_singleton.mp g]
                  refine ⟨shape, left, tk, rfl, hval, ?_, hS, hsum⟩
                  rw [← storedH_new hz t u]
                  exact hk2
              · rw [List.map_append, List.nodup_append]
                refine ⟨hz3, by simp, fun x hx y hy e => ?_⟩
                simp only [List.map_cons, List.map_nil, List.mem_singleton] at hy
                rw [hy] at e
                exact atKey_none hz (e ▸ hx)
            refine fin _ _ (storedH zs (nk shape (left : Int)) t u) t u rfl rfl eB'.put hk2 upd_same hst.1 hst.2 ?_
            rw [storedH_new hz]
            unfold atKey at hz ⊢
            rw [List.find?_append, Option.map_eq_none_iff.mp hz]
            simp
          · obtain ⟨y, hy⟩ := Option.ne_none_iff_exists'.mp hz
            have hk2 : KeyAt (upd H' kd (NDict P w kd (storedH zs (nk shape (left : Int)) t u))) t shape (left : Int) := hkey'.mono fun a ts h => by rw [upd_ne (ne_of h hz1 (fun z => nomatch z))]; exact h
            have hold := storedH_old hy t u
            have hmem : ∀ x ∈ storedH zs (nk shape (left : Int)) t u, Ent (upd H' kd (NDict P w kd (storedH zs (nk shape (left : Int)) t u))) N x := by
              intro x hx
              have hx' := hx
              rw [hold] at hx'
              obtain ⟨x0, hx0, rfl⟩ := List.mem_map.mp hx'
              have h0 : Ent (upd H' kd (NDict P w kd (storedH zs (nk shape (left : Int)) t u))) N x0 := (hz2 x0 hx0).mono fun a ts h => by rw [upd_ne (ne_of h hz1 (fun z => nomatch z))]; exact h
              unfold putAt
              by_cases g : x0.1 = nk shape (left : Int)
              · rw [if_pos g]
                obtain ⟨s', l', tk', g1, g2, g3, g4, g5⟩ := h0
                obtain ⟨i1, i2⟩ := nk_inj (g.symm.trans g1)
                have i3 : left = l' := by omega
                subst i1 i3
                exact ⟨shape, left, tk, g, hval, g3, g4, g5⟩
              · rw [if_neg g]
                exact h0
            have hkeys : (storedH zs (nk shape (left : Int)) t u).map (·.1) = zs.map (·.1) := by
              rw [hold, List.map_map]
              apply List.map_congr_left
              intro x _
              show (putAt _ u x).1 = x.1
              unfold putAt
              split <;> rfl
            cases hf : atKey (storedH zs (nk shape (left : Int)) t u) (nk shape (left : Int)) with
            | none =>
              have := atKey_none hf
              rw [hkeys] at this
              exact absurd (List.mem_map.mpr ⟨_, atKey_mem hy, rfl⟩) this
            | some y2 => exact fin _ _ (storedH zs (nk shape (left : Int)) t u) y2.1 y2.2 rfl rfl eB'.put hk2 upd_same hmem (by rw [hkeys]; exact hz3) hf
      · cases z : atKey xs (nk shape (left : Int)) with
        | none => rw [z] at hc; cases hc
        | some y => exact fin _ H3 xs y.1 y.2 rfl rfl (ExB.of (e1.trans (e2.trans e3))) (hkey2.mono fun a ys h => e3 _ _ h) (e3 _ _ hd2) (fun x hx => (hx2 x hx).mono fun a ys h => e3 _ _ h) hn2 z
theorem d_ways_on (G : Gs mg) (p : Pl K mg "ways_on" st_ways_on ["shape", "left", "known"]) (D_wider : Def P w K mg base CX0 1 "wider" ["shape"] (sp_wider K)) : Def P w K mg base CX0 22 "ways_on" ["shape", "left", "known"] (sp_ways_on K P w) := d_ways_onN G p D_wider 21
/-! ### number_of -/
abbrev st_number_of : Stmt := topS 30
theorem sc_number_of : FnScope ["row", "known", "shape", "found", "place", "mine", "number", "more"] ["row"] (defScope st_number_of) := ⟨rfl, rfl, rfl, by decide +kernel, rfl, by decide +kernel, by decide +kernel⟩

def sp_number_of (K : PySem.W.Frag) : Sp := fun vs H Q _ => ∃ (a : Addr) (ns : List Int), vs = [.ref a] ∧ SqL K H a (ns.map V.int) ∧ ns.length ≤ 20 ∧ Good ns ∧ RetV (.int (rankF [] ns)) H Q
theorem ev_number_of {K : PySem.W.Frag} {H : Hp} {a : Addr} {ns : List Int} (h : SqL K H a (ns.map V.int)) (hl : ns.length ≤ 20) (hg : Good ns) : SpV (sp_number_of K) [.ref a] H (.int (rankF [] ns)) :=
  spv fun H1 e Q q E => ⟨a, ns, rfl, ex_l e h, hl, hg, q⟩
theorem d_number_of (G : Gs mg) (T : Ts K mg CA CC CN) (p : Pl K mg "number_of" st_number_of ["row"]) (D_check_counts : Def P w K mg base CX0 3 "check_counts" ["row"] (sp_check_counts K)) (D_wider : Def P w K mg base CX0 1 "wider" ["shape"] (sp_wider K)) (D_ways_on : Def P w K mg base CX0 22 "ways_on" ["shape", "left", "known"] (sp_ways_on K P w)) : Def P w K mg base CX0 23 "number_of" ["row"] (sp_number_of K) := by
  refine p.ok (k := 22) sc_number_of (fun vs H Q E h => ?_) (fun f cdv A outer s H vs Q E hr h => ?_)
  · obtain ⟨a, ns, rfl, _⟩ := h
    rfl
  · obtain ⟨a, ns, rfl, hS, hl, hg, q⟩ := h
    refine ⟨_, (pss_cons (ps_expr (pe_fn D_check_counts (by decide) hr (by rfl) pass0 (pa_cons (pv 0) pa_nil)))
      (pss_cons (ps_par3 (i := 1) (j := 2) (l := 3) (by rfl) sc_number_of.nd rfl rfl rfl (by decide) (by decide) (by decide) rfl rfl rfl (pa_cons pe_dnewN (pa_cons (pe_tup pa_nil) (pa_cons pe_int pa_nil))) (by rfl))
      (pss_cons (ps_for PassesOwn.never rfl (pi_enum (by rfl) G.n_enumerate (pa_cons (pv 0) pa_nil)) (pg_tup rfl (pgs_cons (pg_name (i := 4) sc_number_of.nd rfl (.inl rfl)) (pgs_cons (pg_name (i := 5) sc_number_of.nd rfl (.inr rfl)) pgs_nil)))
      (pss_cons (ps_for PassesOwn.never rfl (pi_list (pe_fn D_wider (by decide) hr (by rfl) pass0 (pa_cons (pv 2) pa_nil))) (pg_tup rfl (pgs_cons (pg_name (i := 6) sc_number_of.nd rfl (.inl rfl)) (pgs_cons (pg_name (i := 7) sc_number_of.nd rfl (.inl rfl)) pgs_nil)))
      (pss_one (ps_if (pt_cmpR op_lt (pv 6) (pv 5) (nomark _))
      (pss_one (ps_aug (i := 3) sc_number_of.nd rfl (.inl rfl) (pe_fn D_ways_on (by decide) hr (by rfl) pass0 (pa_cons (pv 7) (pa_cons (pe_op op_sub (pe_op op_sub (pe_callB call_len_seq (by rfl) G.n_len (by decide +kernel) (pa_cons (pv 0) pa_nil)) (pv 4)) pe_int) (pa_cons (pv 1) pa_nil)))) ip_add))
      pss_nil)))
      (pss_one (ps_set (i := 2) sc_number_of.nd rfl (.inl rfl) (pe_ix ix_list (pe_lc (own := [("number", 6), ("more", 7)]) (g := (gTup K 2 (gCons (gName 6) (gCons (gName 7) gNil)))) (tt := (tTest (tOp _ (tVar 6) (tVar 5)))) (te := (tVar 7)) rfl sc_number_of.nd (pi_list (pe_fn D_wider (by decide) hr (by rfl) pass0 (pa_cons (pv 2) pa_nil))) (blkOk_by (own := [("number", 6), ("more", 7)]) (N := ["row", "known", "shape", "found", "place", "mine", "number", "more"]) (sc := defScope st_number_of) (by decide +kernel)) (fun _ _ _ _ _ => (pg_tup rfl (pgs_cons (pg_name (i := 6) sc_number_of.nd rfl (.inl rfl)) (pgs_cons (pg_name (i := 7) sc_number_of.nd rfl (.inl rfl)) pgs_nil)))) (fun _ _ _ _ _ => (pts_one (pt_cmpR op_eq (pv 6) (pv 5) (nomark _)))) (fun _ _ _ _ _ => (pv 7))) pe_int (fun _ _ => rfl))))))
      (pss_one (ps_ret (pv 3)))))), ?_⟩
    refine q_drop (ev_call (ea_cons (ev_var rfl) ea_nil) (ev_check_counts hS hl hg)) fun H1 e1 => ?_
    intro kd nkd
    refine rd_cons ?_
    refine eu_tup ea_nil (show 0 ≤ 100000 by decide) _ (Ex.refl _) _ fun s0 H2a ns0 e2a hs0a => ?_
    refine rd_cons ?_
    refine ev_c H2a (Ex.refl _) _ fun H2 e2b => ?_
    refine rd_nil ⟨_, _, _, rfl, ?_⟩
    have e2 := e2a.trans e2b
    have hs0 := e2b _ _ hs0a
    have nkH : H kd = none := fresh_back e1 nkd
    have eH2 : Ex H H2 := e1.trans ((Ex.new nkd).trans e2)
    have hM2 : Memo P w ns.length H2 kd := Memo.new.mono e2
    refine q_forE (a := a) (xs := ns.map V.int) (ev_var rfl) (ex_l eH2 hS) (fun i σ' H' => ∃ sh shape acc y4 y5 y6 y7, σ' = [some (.ref a), some (.ref kd), some (.ref sh), some (.int acc), y4, y5, y6, y7] ∧ Ex H H' ∧ Memo P w ns.length H' kd ∧ H' sh = some (.tup (shape.map V.int)) ∧ ShapeOf (ns.take i) shape ∧ acc + rankF shape (ns.drop i) = rankF [] ns)
      (fun H3 e3 => ⟨s0, [], 0, _, _, _, _, rfl, eH2.trans e3, hM2.mono e3, e3 _ _ hs0, shapeOf_nil, Int.zero_add _⟩) (fun i σ' H' _ hP => by obtain ⟨_, _, _, _, _, _, _, _, eH, _⟩ := hP; exact ex_l eH hS) (fun i x σ' H' T hi hP nT => ?_) (fun σ' H' hP => ?_)
    · obtain ⟨sh, shape, acc, y4, y5, y6, y7, rfl, eH, hM, hsh, hSO, hacc⟩ := hP
      obtain ⟨mine, hm, rfl⟩ := int_at hi
      have hi' : i < ns.length := (List.getElem?_eq_some_iff.mp hm).1
      have em : ns.getD i 0 = mine := by rw [List.getD_eq_getElem?_getD, hm]; rfl
      have hSl := hSO.le
      have hsum := hSO.sum
      rw [List.length_take, Nat.min_eq_left (by omega)] at hSl hsum
      have hleft : 1 ≤ leftF (ns.take i ++ [mine]) (ns.take i).length := by
        have h1 := hg i hi'
        have e : ns.take i ++ [mine] = ns.take (i + 1) := by rw [take_next hi', em]
        rw [e, List.length_take, Nat.min_eq_left (by omega)]
        have h2 := leftF_app (row := ns.take (i + 1)) (j := i) (by rw [List.length_take]; omega) (ns.drop (i + 1))
        rw [List.take_append_drop] at h2
        rw [← h2]
        exact h1
      obtain ⟨k, rfl, hk⟩ := hSO.step hleft
      rw [drop_next hi', em] at hacc
      have hacc2 : acc + (lowF shape (k : Int) (ns.length - i - 1) + rankF (bumpF shape k) (ns.drop (i + 1))) = rankF [] ns := by
        rw [← hacc]
        show _ = acc + (lowF shape (k : Int) (ns.drop (i + 1)).length + rankF (bumpF shape ((k : Int)).toNat) (ns.drop (i + 1)))
        rw [List.length_drop, Int.toNat_natCast, show ns.length - (i + 1) = ns.length - i - 1 by omega]
      have eT : Ex H' (upd H' T (.tup [.int (i : Int), .int (k : Int)])) := Ex.new nT
      have hM3 := hM.mono eT
      have hsh3 := eT _ _ hsh
      have eH3 := eH.trans eT
      revert hM3 hsh3 eH3
      generalize upd H' T (.tup [.int (i : Int), .int (k : Int)]) = H3
      intro hM3 hsh3 eH3
      refine q_forWi (ev_var rfl) hsh3 (by omega) fun pw us H5 npw e5 hpw hw => ?_
      have hM5 := hM3.mono e5
      have npk := hM5.neL hpw
      refine ⟨(fun j σ'' H'' => ∃ z6 z7, σ'' = [some (.ref a), some (.ref kd), some (.ref sh), some (.int (acc + ((((widerF shape).take j).filter fun p => decide ((p.1 : Int) < (k : Int))).map fun p => waysF p.2 (ns.length - i - 1)).sum)), some (.int (i : Int)), some (.int (k : Int)), z6, z7] ∧ ExB kd H5 H'' ∧ Memo P w ns.length H'' kd),
        ⟨_, _, by simp only [List.take_zero, List.filter_nil, List.map_nil, List.sum_nil, Int.add_zero]; rfl, ExB.refl _ _, hM5⟩, (fun j σ'' H'' hP => by obtain ⟨_, _, _, e, _⟩ := hP; exact sq_of (e _ _ npk hpw)), (fun j x σ'' H'' hj hP => ?_), (fun σ'' H'' hP => ?_)⟩
      · obtain ⟨z6, z7, rfl, eB, hM'⟩ := hP
        obtain ⟨pp, t2, sh2, hp1, rfl, ht2, hsh2⟩ := hw.at hj
        have nt2 := hM5.neT ht2
        have nsh2 := hM5.neT hsh2
        obtain ⟨w1, w2, w3⟩ := wider_mem (List.mem_of_getElem? hp1)
        have hSp := wider_shape hSO.sh (List.mem_of_getElem? hp1)
        refine ⟨t2, _, rfl, st_of (eB _ _ nt2 ht2), rfl, _, _, rfl, _, _, rfl, rfl, ?_⟩
        have etk : (widerF shape).take (j + 1) = (widerF shape).take j ++ [pp] := by rw [List.take_add_one, hp1]; rfl
        refine sm_when (P := P) (w := w) (N := ns.length) (kd := kd) (etm_of (et_test (ev_op (ev_var rfl) (ev_var rfl) rv_I0))) hM' (fun hb H6 eB6 hM6 => ?_) (fun hb H6 eB6 hM6 => ?_)
        · have hS6 := ex_l ((((ExB.of (eH3.trans e5)).trans eB).trans eB6).ex nkH) hS
          have hS6d : SqL K (del H6 kd) a (ns.map V.int) := by
            refine ex_l (fun b o hb => ?_) hS
            have hne : b ≠ kd := ne_of_none hb nkH
            rw [del_ne hne]
            exact ((((ExB.of (eH3.trans e5)).trans eB).trans eB6).ex nkH) b o hb
          refine sm_aug (P := P) (w := w) (N := ns.length) (kd := kd) rfl (evm_ways (shape := pp.2) (left := ns.length - i - 1) (ea_cons (ev_var rfl) (ea_cons (ev_is (ev_op (ev_op (ev_len (ev_var rfl) hS6d) (ev_var rfl) rv_I0) ev_c rv_I0) (by congr 1; rw [List.length_map]; omega)) (ea_cons (ev_var rfl) ea_nil))) nsh2 ((eB.trans eB6) _ _ nsh2 hsh2) hSp (by rw [w3, bump_sum w1]; omega) hl) hM6 fun H7 eB7 hM7 => ⟨some (.int (pp.1 : Int)), some (.ref sh2), ?_, eB.trans (eB6.trans eB7), hM7⟩
          rw [etk, List.filter_append, List.filter_cons, if_pos hb, List.map_append, List.sum_append]
          simp only [List.filter_nil, List.map_cons, List.map_nil, List.sum_cons, List.sum_nil, Int.add_zero, ← Int.add_assoc]
          rfl
        · refine ⟨some (.int (pp.1 : Int)), some (.ref sh2), ?_, eB.trans eB6, hM6⟩
          rw [etk, List.filter_append, List.filter_cons, if_neg (by rw [hb]; decide)]
          simp only [List.filter_nil, List.append_nil]
          rfl
      · obtain ⟨z6, z7, rfl, eB, hM'⟩ := hP
        have hlow : acc + ((((widerF shape).take us.length).filter fun p => decide ((p.1 : Int) < (k : Int))).map fun p => waysF p.2 (ns.length - i - 1)).sum = acc + lowF shape (k : Int) (ns.length - i - 1) := by
          rw [hw.len, List.take_length]
          rfl
        rw [hlow]
        have hshB := eB _ _ (hM5.neT (e5 _ _ hsh3)) (e5 _ _ hsh3)
        -- shape = [more for number, more in wider(shape) if number == mine][0]
        refine rd_asgOp ?_
        refine rd_call (ea_cons (ev_var rfl) ea_nil) fun H6 e6 => ⟨sh, shape, rfl, e6 _ _ hshB, by omega, fun pv vs H7 npv e7 hpv hv => ⟨pv, rfl, ⟨vs, sq_of hpv⟩, fun Dl hD => ?_⟩⟩
        obtain ⟨jm, hjm⟩ := List.getElem?_of_mem hk
        obtain ⟨tm, shm, hvm, htm, hshm⟩ := hv.get hjm
        have huniq : ∀ (j : Nat) (p : Nat × List Int), (widerF shape)[j]? = some p → (p.1 = k ↔ j = jm) := fun j p hp => by
          obtain ⟨b1, c1⟩ := List.getElem?_eq_some_iff.mp hp
          obtain ⟨b2, c2⟩ := List.getElem?_eq_some_iff.mp hjm
          constructor
          · intro e
            refine Classical.byContradiction fun hne => ?_
            rcases Nat.lt_or_gt_of_ne hne with q1 | q1
            · have := List.pairwise_iff_getElem.mp (wider_rise shape) j jm b1 b2 q1
              rw [c1, c2] at this
              have h3 : p.1 < k := this
              omega
            · have := List.pairwise_iff_getElem.mp (wider_rise shape) jm j b2 b1 q1
              rw [c1, c2] at this
              have h3 : k < p.1 := this
              omega
          · intro e
            subst e
            rw [hjm] at hp
            cases hp
            rfl
        refine lc_list (xs := vs) (fun j H8 => Ex H7 H8 ∧ H8 Dl = some (.lst (if jm < j then [.ref shm] else []))) ⟨Ex.new hD, upd_same⟩ (fun j H8 _ hP => sq_of (hP.1 _ _ hpv)) (fun j x H8 hj hP => ?_) (fun H8 hP => ?_)
        · obtain ⟨e8, hDl⟩ := hP
          obtain ⟨pp, t2, sh2, hp1, rfl, ht2, hsh2⟩ := hv.at hj
          refine ⟨t2, _, rfl, st_of (e8 _ _ ht2), rfl, _, _, rfl, _, _, rfl, rfl, rfl, ?_⟩
          refine et_test (ev_op (ev_var rfl) (ev_var rfl) (rv_eq rfl)) H8 (Ex.refl _) _ fun H9 e9 => ?_
          have hdec : decide (V.int (pp.1 : Int) = V.int (k : Int)) = decide (pp.1 = k) := dec_int' _ _
          show if decide (V.int (pp.1 : Int) = V.int (k : Int)) = true then _ else _
          rw [hdec]
          by_cases hq : pp.1 = k
          · have hjj := (huniq j pp hp1).mp hq
            subst hjj
            rw [if_pos (decide_eq_true hq)]
            have hxx : sh2 = shm := by
              rw [hvm] at hj
              have h1 : tm = t2 := V.ref.inj (Option.some.inj hj)
              subst h1
              rw [htm] at ht2
              have h2 := HO.tup.inj (Option.some.inj ht2)
              have h3 := List.cons.inj (List.cons.inj h2).2
              exact (V.ref.inj h3.1).symm
            subst hxx
            refine ⟨_, rfl, _, e9 _ _ hDl, by rw [if_neg (Nat.lt_irrefl _)]; exact sz_lt (by decide), Ex.mut (e8.trans e9) hD, ?_⟩
            rw [upd_same, if_neg (Nat.lt_irrefl _), if_pos (Nat.lt_succ_self _)]
            rfl
          · rw [if_neg (by simpa using hq)]
            have hjj : j ≠ jm := fun z => hq ((huniq j pp hp1).mpr z)
            refine ⟨e8.trans e9, ?_⟩
            rw [e9 _ _ hDl]
            by_cases h1 : jm < j
            · rw [if_pos h1, if_pos (by omega)]
            · rw [if_neg h1, if_neg (by omega)]
        · obtain ⟨e8, hDl⟩ := hP
          have hjl : jm < vs.length := by rw [hv.len]; exact (List.getElem?_eq_some_iff.mp hjm).1
          rw [if_pos hjl] at hDl
          refine ⟨Dl, [.ref shm], 0, .ref shm, rfl, rfl, sq_of hDl, rfl, ?_⟩
          have e58 : Ex H'' H8 := e6.trans (e7.trans e8)
          refine ⟨shm, bumpF shape k, _, _, _, _, _, rfl, (((ExB.of (eH3.trans e5)).trans eB).ex nkH).trans e58, hM'.mono e58, e8 _ _ hshm, ?_, ?_⟩
          · have := hSO.next hk
            rw [take_next hi', em]
            exact this
          · rw [← hacc2]; omega
    · obtain ⟨sh, shape, acc, y4, y5, y6, y7, rfl, eH, hM, hsh, hSO, hacc⟩ := hP
      rw [List.length_map, List.drop_of_length_le (Nat.le_refl _)] at hacc
      have : acc = rankF [] ns := by rw [← hacc]; show acc = acc + 0; omega
      rw [← this] at q
      exact s_ret (ev_var rfl) fun H3 e3 => q H3 (eH.trans e3)
/-! ### shape_of -/
abbrev st_shape_of : Stmt := topS 31
theorem sc_shape_of : FnScope ["row", "number"] ["row"] (defScope st_shape_of) := ⟨rfl, rfl, rfl, by decide +kernel, rfl, by decide +kernel, by decide +kernel⟩

def sp_shape_of (K : PySem.W.Frag) : Sp := fun vs H Q _ => ∃ (a : Addr) (ns : List Int), vs = [.ref a] ∧ SqL K H a (ns.map V.int) ∧ ns.length ≤ 20 ∧ Good ns ∧ RetL ((shapeF ns).map V.int) H Q
theorem el_shape_of {K : PySem.W.Frag} {H : Hp} {a : Addr} {ns : List Int} (h : SqL K H a (ns.map V.int)) (hl : ns.length ≤ 20) (hg : Good ns) : SpL (sp_shape_of K) [.ref a] H ((shapeF ns).map V.int) :=
  spl fun H1 e Q q E => ⟨a, ns, rfl, ex_l e h, hl, hg, q⟩
theorem given_shape (ns : List Int) : given (knownF ns : Int).toNat (fun _ => true) (fun k => .int ((ns.count (k : Int) : Nat) : Int)) = (shapeF ns).map V.int := by
  rw [given_all, Int.toNat_natCast]
  unfold shapeF
  rw [List.map_map]
  rfl
theorem d_shape_of (G : Gs mg) (T : Ts K mg CA CC CN) (p : Pl K mg "shape_of" st_shape_of ["row"]) (D_check_counts : Def P w K mg base CX0 3 "check_counts" ["row"] (sp_check_counts K)) : Def P w K mg base CX0 4 "shape_of" ["row"] (sp_shape_of K) := by
  refine p.ok (k := 3) sc_shape_of (fun vs H Q E h => ?_) (fun f cdv A outer s H vs Q E hr h => ?_)
  · obtain ⟨a, ns, rfl, _⟩ := h
    rfl
  · obtain ⟨a, ns, rfl, hS, hl, hg, q⟩ := h
    refine ⟨_, (pss_cons (ps_expr (pe_fn D_check_counts (by decide) hr (by rfl) pass0 (pa_cons (pv 0) pa_nil)))
      (pss_one (ps_ret (pe_lc (own := [("number", 1)]) (g := (gName 1)) (tt := tYes) (te := (tBM K "list" (rCntI K) (tVar 0) (tCons (tVar 1) tNil))) rfl sc_shape_of.nd (pi_range1 (by rfl) G.n_range (pa_cons (pe_lenSetD rfl (by rfl) G.n_len (by rfl) G.n_set (pv 0)) pa_nil)) (blkOk_by (own := [("number", 1)]) (N := ["row", "number"]) (sc := defScope st_shape_of) (by decide +kernel)) (fun _ _ _ _ _ => (pg_name (i := 1) sc_shape_of.nd rfl (.inl rfl))) (fun _ _ _ _ _ => pts_nil) (fun _ _ _ _ _ => (pe_bm PySem.F.plainAttrs_list PySem.F.slot_list_count PySem.F.type_list_count mt_lcount (pv 0) (pa_cons (pv 1) pa_nil))))))), ?_⟩
    refine q_drop (ev_call (ea_cons (ev_var rfl) ea_nil) (ev_check_counts hS hl hg)) fun H1 e1 => ?_
    have hk := knownF_le ns
    refine s_retL (el_is (el_lcR1 (n := (knownF ns : Int)) (fun _ => true) (fun k => .int ((ns.count (k : Int) : Nat) : Int)) (ea_cons (ev_lenSet (ev_var rfl) (ex_l e1 hS) (by omega)) ea_nil) ⟨by omega, by omega⟩ (fun x => rfl) (fun _ _ _ _ => et_yes) fun k H2 e2 _ _ => ev_count (ev_var rfl) (ex_l (e1.trans e2) hS) (ev_var rfl)) (given_shape ns)) fun p H2 n e2 a => q p H2 (fresh_back e1 n) (e1.trans e2) a
/-! ### check_shape -/
abbrev st_check_shape : Stmt := topS 32
theorem sc_check_shape : FnScope ["shape", "one", "other"] ["shape"] (defScope st_check_shape) := ⟨rfl, rfl, rfl, by decide +kernel, rfl, by decide +kernel, by decide +kernel⟩

def sp_check_shape (K : PySem.W.Frag) : Sp := fun vs H Q _ => ∃ (a : Addr) (ns : List Int), vs = [.ref a] ∧ SqL K H a (ns.map V.int) ∧ IsShape ns ∧ ns.sum ≤ 20 ∧ RetV .non H Q
theorem ev_check_shape {K : PySem.W.Frag} {H : Hp} {a : Addr} {ns : List Int} (h : SqL K H a (ns.map V.int)) (hs : IsShape ns) (hl : ns.sum ≤ 20) : SpV (sp_check_shape K) [.ref a] H .non :=
  spv fun H1 e Q q E => ⟨a, ns, rfl, ex_l e h, hs, hl, q⟩
theorem shape_fall {ns : List Int} (h : IsShape ns) {i : Nat} {x y : Int} (hx : ns[i]? = some x) (hy : ns[i + 1]? = some y) : y ≤ x := by
  obtain ⟨h1, e1⟩ := List.getElem?_eq_some_iff.mp hx
  obtain ⟨h2, e2⟩ := List.getElem?_eq_some_iff.mp hy
  rw [← e1, ← e2]
  exact List.pairwise_iff_getElem.mp h.1 i (i + 1) h1 h2 (Nat.lt_succ_self _)
theorem rep_any (n : Nat) : (List.replicate n false).any id = false := by
  rw [List.any_eq_false]
  intro x hx
  rw [List.eq_of_mem_replicate hx]
  decide
theorem d_check_shape (G : Gs mg) (T : Ts K mg CA CC CN) (p : Pl K mg "check_shape" st_check_shape ["shape"]) (D_is_number : Def P w K mg base CX0 1 "is_number" ["thing"] (sp_is_number K)) : Def P w K mg base CX0 2 "check_shape" ["shape"] (sp_check_shape K) := by
  refine p.ok (k := 1) sc_check_shape (fun vs H Q E h => ?_) (fun f cdv A outer s H vs Q E hr h => ?_)
  · obtain ⟨a, ns, rfl, _⟩ := h
    rfl
  · obtain ⟨a, ns, rfl, hS, hs, hl, q⟩ := h
    refine ⟨_, (pss_cons (ps_if (PW.pt (pw_or (pt_not (pt_val (pe_callB call_isi (by rfl) G.n_isinstance (by decide +kernel) (pa_cons (pv 0) (pa_cons (pe_bltn (v := .ty "list") (by rfl) G.n_list (by decide +kernel) rfl) pa_nil))))) (pw_or1 (pt_not (pt_val (pe_callB (cr_all rfl) (by rfl) G.n_all (by decide +kernel) (pa_cons (pe_lc (own := [("one", 1)]) (g := (gName 1)) (tt := tYes) (te := (tAndV (tCall (sp_is_number K) [] _ (tCons (tVar 1) tNil)) (tOp _ (tVar 1) (tC _)))) rfl sc_check_shape.nd (pi_list (pv 0)) (blkOk_by (own := [("one", 1)]) (N := ["shape", "one", "other"]) (sc := defScope st_check_shape) (by decide +kernel)) (fun _ _ _ _ _ => (pg_name (i := 1) sc_check_shape.nd rfl (.inl rfl))) (fun _ _ _ _ _ => pts_nil) (fun _ _ _ _ _ => (pe_and (pe_fn D_is_number (by decide) hr (by rfl) pass0 (pa_cons (pv 1) pa_nil)) (pe_one (pe_cmpR op_gt (pv 1) pe_int (nomark _)))))) pa_nil)))))))
      (pss_one ps_never)
      pss_nil)
      (pss_one (ps_if (PW.pt (pw_or (pt_cmpR op_gt (pe_callB (cr_sum rfl) (by rfl) G.n_sum (by decide +kernel) (pa_cons (pv 0) pa_nil)) (pe_glob (v := .int 20) (by rfl) G.g_LONGEST.choose_spec ⟨_, rfl⟩) (nomark _)) (pw_or1 (pt_val (pe_callB (cr_any rfl) (by rfl) G.n_any (by decide +kernel) (pa_cons (pe_lc (own := [("one", 1), ("other", 2)]) (g := (gTup K 2 (gCons (gName 1) (gCons (gName 2) gNil)))) (tt := tYes) (te := (tOp _ (tVar 1) (tVar 2))) rfl sc_check_shape.nd (pi_zip (by rfl) G.n_zip (pa_cons (pv 0) (pa_cons (pe_slice sl_list (pv 0) (po_some pe_int) po_none) pa_nil))) (blkOk_by (own := [("one", 1), ("other", 2)]) (N := ["shape", "one", "other"]) (sc := defScope st_check_shape) (by decide +kernel)) (fun _ _ _ _ _ => (pg_tup rfl (pgs_cons (pg_name (i := 1) sc_check_shape.nd rfl (.inl rfl)) (pgs_cons (pg_name (i := 2) sc_check_shape.nd rfl (.inl rfl)) pgs_nil)))) (fun _ _ _ _ _ => pts_nil) (fun _ _ _ _ _ => (pe_cmpR op_lt (pv 1) (pv 2) (nomark _)))) pa_nil))))))
      (pss_one ps_never)
      pss_nil))), ?_⟩
    have hlen : ns.length ≤ 20 := by have := shape_len hs.2; omega
    refine q_when (b := false) (et_is (et_or (a := false) (b := false) (et_not (a := true) (et_B (ev_isi (ea_cons (ev_var rfl) (ea_cons ev_c ea_nil)) (fun H1 e => tyx_list (ex_l e hS)) (by decide +kernel)))) fun _ => et_not (a := true) (et_B (ev_allL (ev_var rfl) hS (by rw [List.length_map]; omega) (fun x => rfl) fun i x H1 e hi => ?_))) rfl) (fun hb => nomatch hb) fun _ H1 e1 => ?_
    · obtain ⟨n, hn, rfl⟩ := int_at hi
      have h1 := hs.2 n (List.mem_of_getElem? hn)
      exact ev_is (ev_andV (a := true) (b := true) (ev_call (ea_cons (ev_var rfl) ea_nil) ev_is_number) fun _ => ev_is (ev_op (ev_var rfl) ev_c rv_I0) (by rw [decide_eq_true (show n > 0 by omega)])) rfl
    refine s_when (b := false) (et_is (et_or (a := false) (b := false) (et_test (ev_is (ev_op (ev_sum (ev_var rfl) (ex_l e1 hS)) ev_c rv_I0) (by rw [decide_eq_false (by omega)]))) fun _ => et_B (ev_is (ev_any (bs := List.replicate (ns.length - 1) false) (el_is (el_lcZ (xs := ns.map V.int) (ys := (ns.drop 1).map V.int) (n := ns.length - 1) (fun _ => true) (fun _ => .bl false) (ev_var rfl) (ex_l e1 hS) (el_is (el_sl (ev_var rfl) (eo_some (ev_is (w := .int ((1 : Nat) : Int)) ev_c rfl)) eo_none (ex_l e1 hS)) (cut_from ns 1)) (by rw [List.length_map]; omega) (by rw [List.length_map, List.length_drop]; exact Nat.le_refl _) (.inr (by rw [List.length_map, List.length_drop]; exact Nat.le_refl _)) (by omega) (fun x y => rfl) (fun _ _ _ _ _ _ _ => et_yes) fun i x y H2 e2 hx hy _ => ?_) ?_)) (by rw [rep_any]))) rfl) (fun hb => nomatch hb) fun _ H2 e2 => q H2 (e1.trans e2)
    · obtain ⟨m, hm, rfl⟩ := int_at hx
      obtain ⟨n, hn, rfl⟩ := int_at hy
      rw [List.getElem?_drop, Nat.add_comm] at hn
      have := shape_fall hs hm hn
      exact ev_is (ev_op (ev_var rfl) (ev_var rfl) rv_I0) (by rw [decide_eq_false (by omega)])
    · rw [given_all, List.map_const', List.length_range, List.map_replicate]
/-! ### of_shape -/
abbrev st_of_shape : Stmt := topS 33
theorem sc_of_shape : FnScope ["shape", "top", "bottom", "number", "at", "often", "place", "below", "one"] ["shape"] (defScope st_of_shape) := ⟨rfl, rfl, rfl, by decide +kernel, rfl, by decide +kernel, by decide +kernel⟩

def sp_of_shape (K : PySem.W.Frag) : Sp := fun vs H Q _ => ∃ (a : Addr) (ns : List Int), vs = [.ref a] ∧ SqL K H a (ns.map V.int) ∧ IsShape ns ∧ ns.sum ≤ 20 ∧ RetV (.int (ofF ns)) H Q
theorem ev_of_shape {K : PySem.W.Frag} {H : Hp} {a : Addr} {ns : List Int} (h : SqL K H a (ns.map V.int)) (hs : IsShape ns) (hl : ns.sum ≤ 20) : SpV (sp_of_shape K) [.ref a] H (.int (ofF ns)) :=
  spv fun H1 e Q q E => ⟨a, ns, rfl, ex_l e h, hs, hl, q⟩
theorem d_of_shape (G : Gs mg) (T : Ts K mg CA CC CN) (p : Pl K mg "of_shape" st_of_shape ["shape"]) (D_check_shape : Def P w K mg base CX0 2 "check_shape" ["shape"] (sp_check_shape K)) : Def P w K mg base CX0 3 "of_shape" ["shape"] (sp_of_shape K) := by
  refine p.ok (k := 2) sc_of_shape (fun vs H Q E h => ?_) (fun f cdv A outer s H vs Q E hr h => ?_)
  · obtain ⟨a, ns, rfl, _⟩ := h
    rfl
  · obtain ⟨a, ns, rfl, hS, hs, hl, q⟩ := h
    refine ⟨_, (pss_cons (ps_expr (pe_fn D_check_shape (by decide) hr (by rfl) pass0 (pa_cons (pv 0) pa_nil)))
      (pss_cons (ps_asg (pe_tup (pa_cons pe_int (pa_cons pe_int pa_nil))) (pg_tup rfl (pgs_cons (pg_name (i := 1) sc_of_shape.nd rfl (.inl rfl)) (pgs_cons (pg_name (i := 2) sc_of_shape.nd rfl (.inl rfl)) pgs_nil))))
      (pss_cons (ps_for PassesOwn.never rfl (pi_range1 (by rfl) G.n_range (pa_cons (pe_callB (cr_sum rfl) (by rfl) G.n_sum (by decide +kernel) (pa_cons (pv 0) pa_nil)) pa_nil)) (pg_name (i := 3) sc_of_shape.nd rfl (.inl rfl))
      (pss_one (ps_set (i := 1) sc_of_shape.nd rfl (.inl rfl) (pe_op op_mul (pv 1) (pe_op op_add (pv 3) pe_int)))))
      (pss_cons (ps_for PassesOwn.never rfl (pi_enum (by rfl) G.n_enumerate (pa_cons (pv 0) pa_nil)) (pg_tup rfl (pgs_cons (pg_name (i := 4) sc_of_shape.nd rfl (.inl rfl)) (pgs_cons (pg_name (i := 5) sc_of_shape.nd rfl (.inl rfl)) pgs_nil)))
      (pss_one (ps_for PassesOwn.never rfl (pi_range1 (by rfl) G.n_range (pa_cons (pv 5) pa_nil)) (pg_name (i := 6) sc_of_shape.nd rfl (.inr rfl))
      (pss_cons (ps_set (i := 7) sc_of_shape.nd rfl (.inl rfl) (pe_callB call_len_seq (by rfl) G.n_len (by decide +kernel) (pa_cons (pe_lc (own := [("one", 8)]) (g := (gName 8)) (tt := (tTest (tOp _ (tVar 8) (tVar 6)))) (te := (tVar 8)) rfl sc_of_shape.nd (pi_list (pe_slice sl_list (pv 0) (po_some (pe_op op_add (pv 4) pe_int)) po_none)) (blkOk_by (own := [("one", 8)]) (N := ["shape", "top", "bottom", "number", "at", "often", "place", "below", "one"]) (sc := defScope st_of_shape) (by decide +kernel)) (fun _ _ _ _ _ => (pg_name (i := 8) sc_of_shape.nd rfl (.inl rfl))) (fun _ _ _ _ _ => (pts_one (pt_cmpR op_gt (pv 8) (pv 6) (nomark _)))) (fun _ _ _ _ _ => (pv 8))) pa_nil)))
      (pss_one (ps_set (i := 2) sc_of_shape.nd rfl (.inl rfl) (pe_op op_mul (pv 2) (pe_op op_add (pe_op op_sub (pv 5) (pv 6)) (pv 7)))))))))
      (pss_one (ps_ret (pe_op op_fdivW (pv 1) (pv 2)))))))), ?_⟩
    have hlen : ns.length ≤ 20 := by have := shape_len hs.2; omega
    have hsn : 0 ≤ ns.sum := by have := shape_len hs.2; omega
    refine q_drop (ev_call (ea_cons (ev_var rfl) ea_nil) (ev_check_shape hS hs hl)) fun H1 e1 => ?_
    refine q_tup2 (v := .int 1) (w := .int 1) ev_c ev_c fun H2 e2 => ?_
    refine q_forR1 (n := ns.sum) (ea_cons (ev_sum (ev_var rfl) (ex_l (e1.trans e2) hS)) ea_nil) ⟨by omega, by omega⟩
      (fun i σ' H' => ∃ y3, σ' = [some (.ref a), some (.int (topF i)), some (.int 1), y3, none, none, none, none, none] ∧ Ex H H') (fun H3 e3 => ⟨_, rfl, e1.trans (e2.trans e3)⟩) (fun i σ' H' hi hP => ?_) (fun σ' H' hP => ?_)
    · obtain ⟨y3, rfl, eH⟩ := hP
      exact s_asg (v := .int (topF (i + 1))) (ev_op (ev_var rfl) (ev_op (ev_var rfl) ev_c rv_I0) (rv_I (.inr ⟨by omega, by omega⟩))) fun H3 e3 => ⟨_, rfl, eH.trans e3⟩
    obtain ⟨y3, rfl, eH⟩ := hP
    refine q_forE (ev_var rfl) (ex_l eH hS) (fun i σ' H' => ∃ b y4 y5 y6 y7 y8, σ' = [some (.ref a), some (.int (topF ns.sum.toNat)), some (.int b), y3, y4, y5, y6, y7, y8] ∧ Ex H H' ∧ b * hookF (ns.drop i) = hookF ns)
      (fun H3 e3 => ⟨1, _, _, _, _, _, rfl, eH.trans e3, by rw [List.drop_zero, Int.one_mul]⟩) (fun i σ' H' _ hP => by obtain ⟨_, _, _, _, _, _, _, e, _⟩ := hP; exact ex_l e hS) (fun i x σ' H' T hi hP nT => ?_) (fun σ' H' hP => ?_)
    · obtain ⟨b, y4, y5, y6, y7, y8, rfl, eQ, hb⟩ := hP
      obtain ⟨t, ht, rfl⟩ := int_at hi
      have hi' : i < ns.length := (List.getElem?_eq_some_iff.mp ht).1
      have ht1 := hs.2 t (List.mem_of_getElem? ht)
      have ht20 : t ≤ 20 := by have := mem_sum_le hs.2 (List.mem_of_getElem? ht); omega
      have ed : ns.drop i = t :: ns.drop (i + 1) := by
        rw [List.drop_eq_getElem_cons hi']
        congr 1
        exact (List.getElem?_eq_some_iff.mp ht).2
      have eH3 : Ex H (upd H' T (.tup [.int (i : Int), .int t])) := eQ.trans (Ex.new nT)
      revert eH3
      generalize upd H' T (.tup [.int (i : Int), .int t]) = H3
      intro eH3
      refine s_forR1 (n := t) (ea_cons (ev_var rfl) ea_nil) ⟨by omega, by omega⟩ (fun p σ'' H'' => ∃ z6 z7 z8, σ'' = [some (.ref a), some (.int (topF ns.sum.toNat)), some (.int (b * rowP t (ns.drop (i + 1)) p)), y3, some (.int (i : Int)), some (.int t), z6, z7, z8] ∧ Ex H H'')
        (fun H4 e4 => ⟨y6, y7, y8, by rw [show rowP t (ns.drop (i + 1)) 0 = 1 from rfl, Int.mul_one]; rfl, eH3.trans e4⟩) (fun p σ'' H'' hp hP => ?_) (fun σ'' H'' hP => ?_)
      · obtain ⟨z6, z7, z8, rfl, eR⟩ := hP
        have hcn : 0 ≤ cntF (ns.drop (i + 1)) (p : Int) ∧ cntF (ns.drop (i + 1)) (p : Int) ≤ 20 := by
          unfold cntF
          have h1 := List.length_filter_le (fun x => decide ((p : Int) < x)) (ns.drop (i + 1))
          rw [List.length_drop] at h1
          omega
        refine q_asg (v := .int (cntF (ns.drop (i + 1)) (p : Int))) (ev_is (ev_lenN (el_is (el_lcNL (xs := (ns.drop (i + 1)).map V.int) (fun k => decide ((p : Int) < (ns.drop (i + 1)).getD k 0)) (fun k => .int ((ns.drop (i + 1)).getD k 0)) (el_is (el_sl (ev_var rfl) (eo_some (ev_is (w := .int ((i + 1 : Nat) : Int)) (ev_op (ev_var rfl) ev_c rv_I0) (by congr 1))) eo_none (ex_l eR hS)) (cut_from ns (i + 1))) (by rw [List.length_map, List.length_drop]; omega) (fun x => rfl) (fun k x H4 e4 hk => ?_) fun k x H4 e4 hk _ => ?_) (given_over ns (i + 1) p))) ?_) fun H4 e4 => ?_
        · obtain ⟨m, hm, rfl⟩ := int_at hk
          have : (ns.drop (i + 1)).getD k 0 = m := by rw [List.getD_eq_getElem?_getD, hm]; rfl
          rw [this]
          exact et_test (ev_op (ev_var rfl) (ev_var rfl) rv_I0)
        · obtain ⟨m, hm, rfl⟩ := int_at hk
          have : (ns.drop (i + 1)).getD k 0 = m := by rw [List.getD_eq_getElem?_getD, hm]; rfl
          rw [this]
          exact ev_var rfl
        · unfold cntF; rw [List.length_map]
        refine s_asg (v := .int (b * rowP t (ns.drop (i + 1)) (p + 1))) (ev_is (ev_op (ev_var rfl) (ev_op (ev_op (ev_var rfl) (ev_var rfl) rv_I0) (ev_var rfl) rv_I0) (rv_I (.inr ⟨by omega, by omega⟩))) ?_) fun H5 e5 => ⟨_, _, _, rfl, eR.trans (e4.trans e5)⟩
        rw [show rowP t (ns.drop (i + 1)) (p + 1) = rowP t (ns.drop (i + 1)) p * (t - (p : Int) + cntF (ns.drop (i + 1)) (p : Int)) from rfl, Int.mul_assoc]
      · obtain ⟨z6, z7, z8, rfl, eR⟩ := hP
        refine ⟨_, _, _, _, _, _, rfl, eR, ?_⟩
        rw [← hb, ed, show hookF (t :: ns.drop (i + 1)) = rowP t (ns.drop (i + 1)) t.toNat * hookF (ns.drop (i + 1)) from rfl, Int.mul_assoc]
    · obtain ⟨b, y4, y5, y6, y7, y8, rfl, eQ, hb⟩ := hP
      have hd : ns.drop (ns.map V.int).length = [] := by rw [List.length_map]; exact List.drop_of_length_le (Nat.le_refl _)
      rw [hd, show hookF [] = 1 from rfl, Int.mul_one] at hb
      subst hb
      exact s_ret (v := .int (ofF ns)) (ev_op (ev_var rfl) (ev_var rfl) (rv_I (wide_div (hook_pos hs hl) (hook_fit hs hl) (by decide) (by decide)))) fun H3 e3 => q H3 (eQ.trans e3)
/-! ### _law_cell_at -/
abbrev st_L_cell_at : Stmt := topS 35
theorem sc_L_cell_at : FnScope ["_law_script", "_law_k"] ["_law_script", "_law_k"] (defScope st_L_cell_at) := ⟨rfl, rfl, rfl, by decide +kernel, rfl, by decide +kernel, by decide +kernel⟩

def sp_L_cell_at (K : PySem.W.Frag) : Sp := fun vs H Q _ => ∃ (a : Addr) (ns : List Int) (k : Nat), vs = [.ref a, .int (k : Int)] ∧ SqL K H a (ns.map V.int) ∧ RetV (.int (cellAt ns k)) H Q
theorem ev_cell_at {K : PySem.W.Frag} {H : Hp} {a : Addr} {ns : List Int} {k : Nat} (h : SqL K H a (ns.map V.int)) : SpV (sp_L_cell_at K) [.ref a, .int (k : Int)] H (.int (cellAt ns k)) :=
  spv fun H1 e Q q E => ⟨a, ns, k, rfl, ex_l e h, q⟩
theorem d_L_cell_at (G : Gs mg) (T : Ts K mg CA CC CN) (p : Pl K mg "_law_cell_at" st_L_cell_at ["_law_script", "_law_k"])  : Def P w K mg base CX0 1 "_law_cell_at" ["_law_script", "_law_k"] (sp_L_cell_at K) := by
  refine p.ok (k := 0) sc_L_cell_at (fun vs H Q E h => ?_) (fun f cdv A outer s H vs Q E hr h => ?_)
  · obtain ⟨a, ns, k, rfl, _⟩ := h
    rfl
  · obtain ⟨a, ns, k, rfl, hS, q⟩ := h
    refine ⟨_, (pss_cons (ps_if (pt_cmpR op_lt (pv 1) (pe_callB call_len_seq (by rfl) G.n_len (by decide +kernel) (pa_cons (pv 0) pa_nil)) (nomark _))
      (pss_one (ps_ret (pe_ix ix_list (pv 0) (pv 1) (fun _ _ => rfl))))
      pss_nil)
      (pss_one (ps_ret pe_int))), ?_⟩
    refine q_when (b := decide ((k : Int) < ((ns.map V.int).length : Int))) (et_test (ev_op (ev_var rfl) (ev_len (ev_var rfl) hS) rv_I0)) (fun hb H1 e1 => ?_) (fun hb H1 e1 => ?_)
    · have hk : k < ns.length := by
        have := of_decide_eq_true hb
        rw [List.length_map] at this
        omega
      refine s_ret (ev_op (ev_var rfl) (ev_var rfl) (rv_ixL (ex_l e1 hS) (v := .int (cellAt ns k)) ?_)) fun H2 e2 => q H2 (e1.trans e2)
      refine atI_nat ?_
      rw [List.getElem?_map, List.getElem?_eq_getElem hk]
      unfold cellAt
      rw [List.getD_eq_getElem?_getD, List.getElem?_eq_getElem hk]
      rfl
    · refine s_ret ev_c fun H2 e2 => ?_
      have hk : ns.length ≤ k := by
        have := of_decide_eq_false hb
        rw [List.length_map] at this
        omega
      have e : cellAt ns k = 0 := by
        unfold cellAt
        rw [List.getD_eq_getElem?_getD, List.getElem?_eq_none hk]
        rfl
      rw [e] at q
      exact q H2 (e1.trans e2)
/-! ### _law_draw -/
abbrev st_L_draw : Stmt := topS 36
theorem sc_L_draw : FnScope ["_law_cell", "_law_k", "_law_most", "_law_primes"] ["_law_cell", "_law_k", "_law_most"] (defScope st_L_draw) := ⟨rfl, rfl, rfl, by decide +kernel, rfl, by decide +kernel, by decide +kernel⟩

def sp_L_draw (K : PySem.W.Frag) : Sp := fun vs H Q _ => ∃ (c : Int) (k : Nat) (m : Int), vs = [.int c, .int (k : Int), .int m] ∧ 0 < m ∧ RetV (.int (drawF c k m)) H Q
theorem ev_draw {K : PySem.W.Frag} {H : Hp} {c : Int} {k : Nat} {m : Int} (h : 0 < m) : SpV (sp_L_draw K) [.int c, .int (k : Int), .int m] H (.int (drawF c k m)) :=
  spv fun H1 e Q q E => ⟨c, k, m, rfl, h, q⟩
theorem prime_at (k : Nat) : atI (primes.map V.int) ((k : Int) % 16) = some (.int (primes.getD (k % 16) 1)) := by
  have e : ((k : Int) % 16) = ((k % 16 : Nat) : Int) := by omega
  rw [e]
  have h : k % 16 < primes.length := by show k % 16 < 16; omega
  refine atI_nat ?_
  rw [List.getElem?_map, List.getElem?_eq_getElem h, List.getD_eq_getElem?_getD, List.getElem?_eq_getElem h]
  rfl
theorem prime_pos (k : Nat) : 0 < primes.getD (k % 16) 1 := by
  have h : k % 16 < primes.length := by show k % 16 < 16; omega
  have a : ∀ x ∈ primes, (0 : Int) < x := by decide
  rw [List.getD_eq_getElem?_getD, List.getElem?_eq_getElem h]
  exact a _ (List.getElem_mem h)
theorem d_L_draw (G : Gs mg) (T : Ts K mg CA CC CN) (p : Pl K mg "_law_draw" st_L_draw ["_law_cell", "_law_k", "_law_most"])  : Def P w K mg base CX0 1 "_law_draw" ["_law_cell", "_law_k", "_law_most"] (sp_L_draw K) := by
  refine p.ok (k := 0) sc_L_draw (fun vs H Q E h => ?_) (fun f cdv A outer s H vs Q E hr h => ?_)
  · obtain ⟨c, k, m, rfl, _⟩ := h
    rfl
  · obtain ⟨c, k, m, rfl, hm, q⟩ := h
    refine ⟨_, (pss_cons (ps_set (i := 3) sc_L_draw.nd rfl (.inl rfl) (pe_tup (pa_cons pe_int (pa_cons pe_int (pa_cons pe_int (pa_cons pe_int (pa_cons pe_int (pa_cons pe_int (pa_cons pe_int (pa_cons pe_int (pa_cons pe_int (pa_cons pe_int (pa_cons pe_int (pa_cons pe_int (pa_cons pe_int (pa_cons pe_int (pa_cons pe_int (pa_cons pe_int pa_nil))))))))))))))))))
      (pss_one (ps_ret (pe_op op_mod (pe_op op_mod (pe_op op_add (pe_op op_mul (pv 0) pe_int) (pe_op op_mul (pv 1) pe_int)) (pe_ix ix_tup (pv 3) (pe_op op_mod (pv 1) pe_int) (fun _ _ => rfl))) (pv 2))))), ?_⟩
    refine q_asgU (xs := primes.map V.int) (eu_tup (ea_cons ev_c (ea_cons ev_c (ea_cons ev_c (ea_cons ev_c (ea_cons ev_c (ea_cons ev_c (ea_cons ev_c (ea_cons ev_c (ea_cons ev_c (ea_cons ev_c (ea_cons ev_c (ea_cons ev_c (ea_cons ev_c (ea_cons ev_c (ea_cons ev_c (ea_cons ev_c ea_nil)))))))))))))))) (by decide)) fun p H1 np e1 hp => ?_
    refine s_ret (ev_op (ev_op (ev_op (ev_op (ev_var rfl) ev_c (rv_I (.inr ⟨by decide, by decide⟩))) (ev_op (ev_var rfl) ev_c (rv_I (.inr ⟨by decide, by decide⟩))) rv_I0) (ev_op (ev_var rfl) (ev_op (ev_var rfl) ev_c (rv_I (by decide))) (rv_ixT (st_of hp) (prime_at k))) (rv_I (prime_pos k))) (ev_var rfl) (rv_I hm)) fun H2 e2 => q H2 (e1.trans e2)
/-! ### _law_number -/
abbrev st_L_number : Stmt := topS 37
theorem sc_L_number : FnScope ["_law_cell", "_law_k", "_law_limit", "_law_small"] ["_law_cell", "_law_k", "_law_limit"] (defScope st_L_number) := ⟨rfl, rfl, rfl, by decide +kernel, rfl, by decide +kernel, by decide +kernel⟩

def sp_L_number (K : PySem.W.Frag) : Sp := fun vs H Q _ => ∃ (c : Int) (k : Nat) (m : Int), vs = [.int c, .int (k : Int), .int m] ∧ k ≤ 1000 ∧ 0 < m ∧ ∀ i : Int, 0 ≤ i → i < m → RetV (.int i) H Q
theorem div_at (k : Nat) : atI (divs.map V.int) ((k : Int) % 5) = some (.int (divs.getD (k % 5) 1)) := by
  have e : ((k : Int) % 5) = ((k % 5 : Nat) : Int) := by omega
  rw [e]
  have h : k % 5 < divs.length := by show k % 5 < 5; omega
  refine atI_nat ?_
  rw [List.getElem?_map, List.getElem?_eq_getElem h, List.getD_eq_getElem?_getD, List.getElem?_eq_getElem h]
  rfl
theorem div_pos (k : Nat) : CDiv 0 (divs.getD (k % 5) 1) := by
  have h : k % 5 < divs.length := by show k % 5 < 5; omega
  have a : ∀ x ∈ divs, (0 : Int) < x ∧ x < 1073741824 := by decide
  rw [List.getD_eq_getElem?_getD, List.getElem?_eq_getElem h]
  exact a _ (List.getElem_mem h)
theorem d_L_number (G : Gs mg) (T : Ts K mg CA CC CN) (p : Pl K mg "_law_number" st_L_number ["_law_cell", "_law_k", "_law_limit"]) (D_L_draw : Def P w K mg base CX0 1 "_law_draw" ["_law_cell", "_law_k", "_law_most"] (sp_L_draw K)) : Def P w K mg base CX0 2 "_law_number" ["_law_cell", "_law_k", "_law_limit"] (sp_L_number K) := by
  refine p.ok (k := 1) sc_L_number (fun vs H Q E h => ?_) (fun f cdv A outer s H vs Q E hr h => ?_)
  · obtain ⟨c, k, m, rfl, _⟩ := h
    rfl
  · obtain ⟨c, k, m, rfl, hk, hm, q⟩ := h
    refine ⟨_, (pss_cons (ps_if (pt_cmpR op_ge (pv 0) (pe_op op_pow pe_int pe_int) (nomark _))
      (pss_one (ps_ret (pe_op op_mod (pe_op op_fdiv (pe_op op_sub (pv 0) (pe_op op_pow pe_int pe_int)) (pe_ix ix_tup (pe_tup (pa_cons pe_int (pa_cons pe_int (pa_cons pe_int (pa_cons pe_int (pa_cons pe_int pa_nil)))))) (pe_op op_mod (pv 1) pe_int) (fun _ _ => rfl))) (pv 2))))
      pss_nil)
      (pss_cons (ps_set (i := 3) sc_L_number.nd rfl (.inl rfl) (pe_op op_mod (pv 0) pe_int))
      (pss_one (ps_ret (pe_op op_mod (pe_fn D_L_draw (by decide) hr (by rfl) pass0 (pa_cons (pe_op op_mul (pe_op op_add (pv 3) (pe_op op_mul pe_int (pv 1))) (pe_op op_add (pe_op op_add (pv 3) (pe_op op_mul pe_int (pv 1))) pe_int)) (pa_cons (pe_op op_add (pe_op op_mod (pv 1) pe_int) pe_int) (pa_cons pe_int pa_nil)))) (pv 2)))))), ?_⟩
    refine q_when (b := decide ((10 : Int) ^ 18 ≤ c)) (et_test (ev_op (ev_var rfl) (ev_op ev_c ev_c (rv_I ⟨by decide, by decide, by decide⟩)) rv_I0)) (fun hb H1 e1 => ?_) (fun hb H1 e1 => ?_)
    · exact s_ret (ev_op (ev_op (ev_op (ev_var rfl) (ev_op ev_c ev_c (rv_I ⟨by decide, by decide, by decide⟩)) rv_I0) (ev_menu (xs := divs.map V.int) (eu_tup (ea_cons ev_c (ea_cons ev_c (ea_cons ev_c (ea_cons ev_c (ea_cons ev_c ea_nil))))) (by decide)) (ev_op (ev_var rfl) ev_c (rv_I (by decide))) (div_at k)) (rv_I (div_pos k))) (ev_var rfl) (rv_I hm)) fun H2 e2 => q _ (Int.emod_nonneg _ (by omega)) (Int.emod_lt_of_pos _ hm) H2 (e1.trans e2)
    · refine q_asg (v := .int (c % 1000003)) (ev_op (ev_var rfl) ev_c (rv_I (by decide))) fun H2 e2 => ?_
      have hs : 0 ≤ c % 1000003 ∧ c % 1000003 < 1000003 := by omega
      revert hs
      generalize c % 1000003 = sm
      intro hs
      exact s_ret (ev_op (ev_call (ea_cons (ev_op (ev_op (ev_var rfl) (ev_op ev_c (ev_var rfl) (rv_I (.inl ⟨by decide, by decide⟩))) rv_I0) (ev_op (ev_op (ev_var rfl) (ev_op ev_c (ev_var rfl) (rv_I (.inl ⟨by decide, by decide⟩))) rv_I0) ev_c rv_I0) (rv_I (.inl ⟨by omega, by omega⟩))) (ea_cons (ev_is (w := .int ((k % 9 + 1 : Nat) : Int)) (ev_op (ev_op (ev_var rfl) ev_c (rv_I (by decide))) ev_c rv_I0) (by congr 1)) (ea_cons ev_c ea_nil))) (ev_draw (by decide))) (ev_var rfl) (rv_I hm)) fun H3 e3 => q _ (Int.emod_nonneg _ (by omega)) (Int.emod_lt_of_pos _ hm) H3 (e1.trans (e2.trans e3))
/-! ### _law_deep -/
abbrev st_L_deep : Stmt := topS 38
theorem sc_L_deep : FnScope ["_law_thing", "_law_one"] ["_law_thing"] (defScope st_L_deep) := ⟨rfl, rfl, rfl, by decide +kernel, rfl, by decide +kernel, by decide +kernel⟩

/-- a copy: of an int; of a list of ints; of a list of one such list -/
def sp_L_deepN (K : PySem.W.Frag) (n : Nat) : Sp := fun vs H Q _ => (1 ≤ n ∧ ∃ i : Int, vs = [.int i] ∧ RetV (.int i) H Q) ∨ (2 ≤ n ∧ ∃ (a : Addr) (ns : List Int), vs = [.ref a] ∧ SqL K H a (ns.map V.int) ∧ ns.length ≤ 1000 ∧ RetL (ns.map V.int) H Q) ∨
  (3 ≤ n ∧ ∃ (a b : Addr) (ns : List Int), vs = [.ref a] ∧ SqL K H a [.ref b] ∧ SqL K H b (ns.map V.int) ∧ ns.length ≤ 1000 ∧ ∀ p r H2, H p = none → H r = none → p ≠ r → Ex H H2 → H2 p = some (.lst [.ref r]) → H2 r = some (.lst (ns.map V.int)) → Q (.ref p) H2)
def sp_L_deep (K : PySem.W.Frag) : Sp := sp_L_deepN K 3
theorem ev_deep0 {K : PySem.W.Frag} {n : Nat} {H : Hp} {i : Int} (h : 1 ≤ n) : SpV (sp_L_deepN K n) [.int i] H (.int i) := spv fun H1 e Q q E => .inl ⟨h, i, rfl, q⟩
theorem el_deepN {K : PySem.W.Frag} {n : Nat} {H : Hp} {a : Addr} {ns : List Int} (h : 2 ≤ n) (hS : SqL K H a (ns.map V.int)) (hl : ns.length ≤ 1000) : SpL (sp_L_deepN K n) [.ref a] H (ns.map V.int) := spl fun H1 e Q q E => .inr (.inl ⟨h, a, ns, rfl, ex_l e hS, hl, q⟩)
theorem el_deep1 {K : PySem.W.Frag} {H : Hp} {a : Addr} {ns : List Int} (hS : SqL K H a (ns.map V.int)) (hl : ns.length ≤ 1000) : SpL (sp_L_deep K) [.ref a] H (ns.map V.int) := el_deepN (by decide) hS hl
/-- _law_deep(..) of a list of one row -/
theorem ev_deep2 {K : PySem.W.Frag} {σ : L2.St} {H : Hp} {te : TE} {E : XK} {a b : Addr} {ns : List Int} (h : Ev te σ H (.ref a)) (hA : SqL K H a [.ref b]) (hB : SqL K H b (ns.map V.int)) (hl : ns.length ≤ 1000) :
    ∀ H0, Ex H H0 → ∀ Q : VK, (∀ p r H2, H0 p = none → H0 r = none → p ≠ r → Ex H0 H2 → H2 p = some (.lst [.ref r]) → H2 r = some (.lst (ns.map V.int)) → Q (.ref p) H2) → tCall (sp_L_deep K) [] E (tCons te tNil) σ H0 Q := fun H0 e Q q =>
  h H0 e _ fun H1 e1 => .inr (.inr ⟨by decide, a, b, ns, rfl, ex_l (e.trans e1) hA, ex_l (e.trans e1) hB, hl, fun p r H2 np nr ne e2 hp hr => q p r H2 (fresh_back e1 np) (fresh_back e1 nr) ne (e1.trans e2) hp hr⟩)
theorem d_L_deepN (G : Gs mg) (p : Pl K mg "_law_deep" st_L_deep ["_law_thing"]) : ∀ n : Nat, Def P w K mg base CX0 (n + 1) "_law_deep" ["_law_thing"] (sp_L_deepN K n) := by
  intro n
  induction n with
  | zero =>
    obtain ⟨f, fd, F, hm, hb⟩ := p.ex
    have no : ∀ vs H Q E, ¬ sp_L_deepN K 0 vs H Q E := fun vs H Q E h => by
      rcases h with ⟨z, _⟩ | ⟨z, _⟩ | ⟨z, _⟩ <;> omega
    exact ⟨f, fd, ⟨fun vs H Q E h => (no _ _ _ _ h).elim, fun A outer s H args us vs Q E _ _ _ _ h => (no _ _ _ _ h).elim⟩, hm, F.kp, hb⟩
  | succ n D_L_deepN =>
    refine p.ok (k := n + 1) sc_L_deep (fun vs H Q E h => ?_) (fun f cdv A outer s H vs Q E hr h => ?_)
    · rcases h with ⟨_, _, rfl, _⟩ | ⟨_, _, _, rfl, _⟩ | ⟨_, _, _, _, rfl, _⟩ <;> rfl
    · rcases h with ⟨hn, i, rfl, q⟩ | ⟨hn, a, ns, rfl, hS, hl, q⟩ | ⟨hn, a, b, ns, rfl, hA, hB, hl, q⟩
      · refine ⟨_, (pss_cons (ps_if (pt_val (pe_callB call_isi (by rfl) G.n_isinstance (by decide +kernel) (pa_cons (pv 0) (pa_cons (pe_bltn (v := .ty "list") (by rfl) G.n_list (by decide +kernel) rfl) pa_nil))))
(pss_one (ps_ret (pe_lc (own := [("_law_one", 1)]) (g := (gName 1)) (tt := tYes) (te := (tCall (sp_L_deepN K n) [] _ (tCons (tVar 1) tNil))) rfl sc_L_deep.nd (pi_list (pv 0)) (blkOk_by (own := [("_law_one", 1)]) (N := ["_law_thing", "_law_one"]) (sc := defScope st_L_deep) (by decide +kernel)) (fun _ _ _ _ _ => (pg_name (i := 1) sc_L_deep.nd rfl (.inl rfl))) (fun _ _ _ _ _ => pts_nil) (fun _ _ _ _ _ => (pe_fn D_L_deepN (by omega) hr (by rfl) pass0 (pa_cons (pv 1) pa_nil))))))
pss_nil)
(pss_one (ps_ret (pe_ifExp (pt_val (pe_callB call_isi (by rfl) G.n_isinstance (by decide +kernel) (pa_cons (pv 0) (pa_cons (pe_bltn (v := .ty "tuple") (by rfl) G.n_tuple (by decide +kernel) rfl) pa_nil)))) pe_never (pv 0))))), ?_⟩
        refine q_when (b := false) (et_B (ev_isi (ea_cons (ev_var rfl) (ea_cons ev_c ea_nil)) (fun H1 e => tyx_int i) (by decide +kernel))) (fun hb => nomatch hb) fun _ H1 e1 => ?_
        exact s_ret (ev_if (b := false) (et_B (ev_isi (ea_cons (ev_var rfl) (ea_cons ev_c ea_nil)) (fun H1 e => tyx_int i) (by decide +kernel))) (fun hb => nomatch hb) (fun _ => ev_var rfl)) fun H2 e2 => q H2 (e1.trans e2)
      · refine ⟨_, (pss_cons (ps_if (pt_val (pe_callB call_isi (by rfl) G.n_isinstance (by decide +kernel) (pa_cons (pv 0) (pa_cons (pe_bltn (v := .ty "list") (by rfl) G.n_list (by decide +kernel) rfl) pa_nil))))
(pss_one (ps_ret (pe_lc (own := [("_law_one", 1)]) (g := (gName 1)) (tt := tYes) (te := (tCall (sp_L_deepN K n) [] _ (tCons (tVar 1) tNil))) rfl sc_L_deep.nd (pi_list (pv 0)) (blkOk_by (own := [("_law_one", 1)]) (N := ["_law_thing", "_law_one"]) (sc := defScope st_L_deep) (by decide +kernel)) (fun _ _ _ _ _ => (pg_name (i := 1) sc_L_deep.nd rfl (.inl rfl))) (fun _ _ _ _ _ => pts_nil) (fun _ _ _ _ _ => (pe_fn D_L_deepN (by omega) hr (by rfl) pass0 (pa_cons (pv 1) pa_nil))))))
pss_nil)
(pss_one (ps_ret (pe_ifExp (pt_val (pe_callB call_isi (by rfl) G.n_isinstance (by decide +kernel) (pa_cons (pv 0) (pa_cons (pe_bltn (v := .ty "tuple") (by rfl) G.n_tuple (by decide +kernel) rfl) pa_nil)))) pe_never (pv 0))))), ?_⟩
        refine q_when (b := true) (et_B (ev_isi (ea_cons (ev_var rfl) (ea_cons ev_c ea_nil)) (fun H1 e => tyx_list (ex_l e hS)) (by decide +kernel))) (fun _ H1 e1 => ?_) (fun hb => nomatch hb)
        refine s_retL (xs := ns.map V.int) (el_is (el_lcL (xs := ns.map V.int) (fun _ => true) (fun i => .int (ns.getD i 0)) (ev_var rfl) (ex_l e1 hS) (by rw [List.length_map]; omega) (fun x => rfl) (fun _ _ _ _ _ => et_yes) fun i x H2 e2 hi _ => ?_) (ints_same ns)) fun p1 H2 np e2 hp => q p1 H2 (fresh_back e1 np) (e1.trans e2) hp
        obtain ⟨m, hm, rfl⟩ := int_at hi
        have eg : ns.getD i 0 = m := by rw [List.getD_eq_getElem?_getD, hm]; rfl
        rw [eg]
        exact ev_call (ea_cons (ev_var rfl) ea_nil) (ev_deep0 (by omega))
      · refine ⟨_, (pss_cons (ps_if (pt_val (pe_callB call_isi (by rfl) G.n_isinstance (by decide +kernel) (pa_cons (pv 0) (pa_cons (pe_bltn (v := .ty "list") (by rfl) G.n_list (by decide +kernel) rfl) pa_nil))))
(pss_one (ps_ret (pe_lc (own := [("_law_one", 1)]) (g := (gName 1)) (tt := tYes) (te := (tCall (sp_L_deepN K n) [] _ (tCons (tVar 1) tNil))) rfl sc_L_deep.nd (pi_list (pv 0)) (blkOk_by (own := [("_law_one", 1)]) (N := ["_law_thing", "_law_one"]) (sc := defScope st_L_deep) (by decide +kernel)) (fun _ _ _ _ _ => (pg_name (i := 1) sc_L_deep.nd rfl (.inl rfl))) (fun _ _ _ _ _ => pts_nil) (fun _ _ _ _ _ => (pe_fn D_L_deepN (by omega) hr (by rfl) pass0 (pa_cons (pv 1) pa_nil))))))
pss_nil)
(pss_one (ps_ret (pe_ifExp (pt_val (pe_callB call_isi (by rfl) G.n_isinstance (by decide +kernel) (pa_cons (pv 0) (pa_cons (pe_bltn (v := .ty "tuple") (by rfl) G.n_tuple (by decide +kernel) rfl) pa_nil)))) pe_never (pv 0))))), ?_⟩
        refine q_when (b := true) (et_B (ev_isi (ea_cons (ev_var rfl) (ea_cons ev_c ea_nil)) (fun H1 e => tyx_list (ex_l e hA)) (by decide +kernel))) (fun _ H1 e1 => ?_) (fun hb => nomatch hb)
        exact lc_one (K := K) (ev_var rfl) (ex_l e1 hA) (fun x => rfl) (fun H2 e2 => el_call (ea_cons (ev_var rfl) ea_nil) (el_deepN (by omega) (ex_l (e1.trans e2) hB) hl)) H1 (Ex.refl _) _ fun p1 r H2 np nr ne e2 hp hr1 => q p1 r H2 (fresh_back e1 np) (fresh_back e1 nr) ne (e1.trans e2) hp hr1
theorem d_L_deep (G : Gs mg) (p : Pl K mg "_law_deep" st_L_deep ["_law_thing"]) : Def P w K mg base CX0 4 "_law_deep" ["_law_thing"] (sp_L_deep K) := d_L_deepN G p 3
/-! ### _law_spoilt -/
abbrev st_L_spoilt : Stmt := topS 39
theorem sc_L_spoilt : FnScope ["_law_found", "_law_one"] ["_law_found"] (defScope st_L_spoilt) := ⟨rfl, rfl, rfl, by decide +kernel, rfl, by decide +kernel, by decide +kernel⟩

/-- nothing is done to a flat thing; a list of such gets one more -/
def sp_L_spoiltN (K : PySem.W.Frag) (n : Nat) : Sp := fun vs H Q _ => (1 ≤ n ∧ ∃ x : V, vs = [x] ∧ FlatX x ∧ RetV .non H Q) ∨ (2 ≤ n ∧ ∃ (a : Addr) (us : List V), vs = [.ref a] ∧ H a = some (.lst us) ∧ us.length ≤ 1000 ∧ (∀ u ∈ us, FlatX u) ∧ ∀ t H1, Ex H H1 → Q .non (upd H1 a (.lst (us ++ [.ref t]))))
def sp_L_spoilt (K : PySem.W.Frag) : Sp := sp_L_spoiltN K 2
theorem ev_spoilt0 {K : PySem.W.Frag} {n : Nat} {H : Hp} {x : V} (h : 1 ≤ n) (hx : FlatX x) : SpV (sp_L_spoiltN K n) [x] H .non := spv fun H1 e Q q E => .inl ⟨h, x, rfl, hx, q⟩
theorem d_L_spoiltN (G : Gs mg) (p : Pl K mg "_law_spoilt" st_L_spoilt ["_law_found"]) : ∀ n : Nat, Def P w K mg base CX0 (n + 1) "_law_spoilt" ["_law_found"] (sp_L_spoiltN K n) := by
  intro n
  induction n with
  | zero =>
    obtain ⟨f, fd, F, hm, hb⟩ := p.ex
    have no : ∀ vs H Q E, ¬ sp_L_spoiltN K 0 vs H Q E := fun vs H Q E h => by
      rcases h with ⟨z, _⟩ | ⟨z, _⟩ <;> omega
    exact ⟨f, fd, ⟨fun vs H Q E h => (no _ _ _ _ h).elim, fun A outer s H args us vs Q E _ _ _ _ h => (no _ _ _ _ h).elim⟩, hm, F.kp, hb⟩
  | succ n D_L_spoiltN =>
    refine p.ok (k := n + 1) sc_L_spoilt (fun vs H Q E h => ?_) (fun f cdv A outer s H vs Q E hr h => ?_)
    · rcases h with ⟨_, _, rfl, _⟩ | ⟨_, _, _, rfl, _⟩ <;> rfl
    · rcases h with ⟨hn, x, rfl, hx, q⟩ | ⟨hn, a, us, rfl, ha, hl, hf, q⟩
      · refine ⟨_, (pss_cons (ps_if (pt_val (pe_callB call_isiT (by rfl) G.n_isinstance (by decide +kernel) (pa_cons (pv 0) (pa_cons (pe_tup (pa_cons (pe_bltn (v := .ty "list") (by rfl) G.n_list (by decide +kernel) rfl) (pa_cons (pe_bltn (v := .ty "tuple") (by rfl) G.n_tuple (by decide +kernel) rfl) pa_nil))) pa_nil))))
(pss_one (ps_for PassesOwn.never rfl (pi_list (pv 0)) (pg_name (i := 1) sc_L_spoilt.nd rfl (.inl rfl))
(pss_one (ps_expr (pe_fn D_L_spoiltN (by omega) hr (by rfl) pass0 (pa_cons (pv 1) pa_nil))))))
pss_nil)
(pss_one (ps_if (pt_val (pe_callB call_isi (by rfl) G.n_isinstance (by decide +kernel) (pa_cons (pv 0) (pa_cons (pe_bltn (v := .ty "list") (by rfl) G.n_list (by decide +kernel) rfl) pa_nil))))
(pss_one (ps_expr (pe_bm PySem.F.plainAttrs_list PySem.F.slot_list_append PySem.F.type_list_append mt_append (pv 0) (pa_cons (pe_tup pa_nil) pa_nil))))
pss_nil))), ?_⟩
        obtain ⟨m, ty, k1, k2⟩ := flat_ty (K := K) hx
        refine q_when (b := false) (et_B (ev_isiT2 (ev_var rfl) (fun H1 _ => ty H1) k1 k2 rfl)) (fun hb => nomatch hb) fun _ H1 e1 => ?_
        exact s_when (b := false) (et_B (ev_isi (ea_cons (ev_var rfl) (ea_cons ev_c ea_nil)) (fun H1 _ => ty H1) k1)) (fun hb => nomatch hb) fun _ H2 e2 => q H2 (e1.trans e2)
      · refine ⟨_, (pss_cons (ps_if (pt_val (pe_callB call_isiT (by rfl) G.n_isinstance (by decide +kernel) (pa_cons (pv 0) (pa_cons (pe_tup (pa_cons (pe_bltn (v := .ty "list") (by rfl) G.n_list (by decide +kernel) rfl) (pa_cons (pe_bltn (v := .ty "tuple") (by rfl) G.n_tuple (by decide +kernel) rfl) pa_nil))) pa_nil))))
(pss_one (ps_for PassesOwn.never rfl (pi_list (pv 0)) (pg_name (i := 1) sc_L_spoilt.nd rfl (.inl rfl))
(pss_one (ps_expr (pe_fn D_L_spoiltN (by omega) hr (by rfl) pass0 (pa_cons (pv 1) pa_nil))))))
pss_nil)
(pss_one (ps_if (pt_val (pe_callB call_isi (by rfl) G.n_isinstance (by decide +kernel) (pa_cons (pv 0) (pa_cons (pe_bltn (v := .ty "list") (by rfl) G.n_list (by decide +kernel) rfl) pa_nil))))
(pss_one (ps_expr (pe_bm PySem.F.plainAttrs_list PySem.F.slot_list_append PySem.F.type_list_append mt_append (pv 0) (pa_cons (pe_tup pa_nil) pa_nil))))
pss_nil))), ?_⟩
        have nxt : ∀ (σ0 : L2.St) (H2 : Hp), σ0[0]? = some (some (.ref a)) → Ex H H2 → tIfS (tB (tCB (rIsi K) (tCons (tVar 0) (tCons (tC (.ty "list")) tNil)))) (tDrop (tBM K "list" rAppend (tVar 0) (tCons (tTup tNil) tNil))) tNext { nx := fun _ H' => Q .non H', rt := Q } σ0 H2 := fun σ0 H2 h0 e2 =>
          s_when (b := true) (et_B (ev_isi (ea_cons (ev_var h0) (ea_cons ev_c ea_nil)) (fun H1 e => tyx_list (sq_of (e _ _ (e2 _ _ ha)))) (by decide +kernel))) (fun _ H3 e3 => s_appU ((e2.trans e3) _ _ ha) (ev_var h0) (eu_tup ea_nil (by decide)) (by omega) fun t H4 nt e4 ht => q t H4 (e2.trans (e3.trans e4))) (fun hb => nomatch hb)
        refine q_when (b := true) (et_B (ev_isiT2 (ev_var rfl) (fun H1 e => tyx_list (sq_of (e _ _ ha))) (by decide +kernel : kitB "list" "list" = some true) (by decide +kernel : kitB "list" "tuple" = some false) rfl)) (fun _ H1 e1 => ?_) (fun hb => nomatch hb)
        refine s_forL (K := K) (xs := us) (ev_var rfl) (sq_of (e1 _ _ ha)) (fun k σ' H' => ∃ y1, σ' = [some (.ref a), y1] ∧ Ex H H') (fun H2 e2 => ⟨_, rfl, e1.trans e2⟩) (fun k σ' H' _ hP => by obtain ⟨_, _, e⟩ := hP; exact sq_of (e _ _ ha)) (fun k x σ' H' hk hP => ?_) (fun σ' H' hP => ?_)
        · obtain ⟨y1, rfl, e2⟩ := hP
          exact s_drop (ev_call (ea_cons (ev_var rfl) ea_nil) (ev_spoilt0 (by omega) (hf x (List.mem_of_getElem? hk)))) fun H3 e3 => ⟨_, rfl, e2.trans e3⟩
        · obtain ⟨y1, rfl, e2⟩ := hP
          exact nxt _ _ rfl e2
theorem d_L_spoilt (G : Gs mg) (p : Pl K mg "_law_spoilt" st_L_spoilt ["_law_found"]) : Def P w K mg base CX0 3 "_law_spoilt" ["_law_found"] (sp_L_spoilt K) := d_L_spoiltN G p 2
/-! ### _law_put -/
abbrev st_L_put : Stmt := topS 40
theorem sc_L_put : FnScope ["_law_handed", "_law_some", "_law_row", "_law_other"] ["_law_handed", "_law_some"] (defScope st_L_put) := ⟨rfl, rfl, rfl, by decide +kernel, rfl, by decide +kernel, by decide +kernel⟩

/-- the row within the handed list becomes the other; all else stays -/
def sp_L_put (K : PySem.W.Frag) : Sp := fun vs H Q _ => ∃ (hp hr sp so : Addr) (ns ms : List Int), vs = [.ref hp, .ref sp] ∧ H hr = some (.lst (ns.map V.int)) ∧ SqL K (del H hr) hp [.ref hr] ∧ SqL K (del H hr) sp [.ref so] ∧ SqL K (del H hr) so (ms.map V.int) ∧ ns.length ≤ 1000 ∧ ms.length ≤ 1000 ∧
  ∀ H2, Ex (del H hr) H2 → H2 hr = some (.lst (ms.map V.int)) → Q .non H2
theorem dropL_map (xs : List Int) : (xs.map V.int).dropLast = xs.dropLast.map V.int := by rw [List.map_dropLast]
theorem d_L_put (G : Gs mg) (T : Ts K mg CA CC CN) (p : Pl K mg "_law_put" st_L_put ["_law_handed", "_law_some"]) (D_L_deep : Def P w K mg base CX0 4 "_law_deep" ["_law_thing"] (sp_L_deep K)) : Def P w K mg base CX0 5 "_law_put" ["_law_handed", "_law_some"] (sp_L_put K) := by
  refine p.ok (k := 4) sc_L_put (fun vs H Q E h => ?_) (fun f cdv A outer s H vs Q E hr h => ?_)
  · obtain ⟨hp, hr0, sp, so, ns, ms, rfl, _⟩ := h
    rfl
  · obtain ⟨hp, hr0, sp, so, ns, ms, rfl, h0, hA, hB, hC, hl, hm, q⟩ := h
    refine ⟨_, (pss_one (ps_for PassesOwn.never rfl (pi_zip (by rfl) G.n_zip (pa_cons (pv 0) (pa_cons (pv 1) pa_nil))) (pg_tup rfl (pgs_cons (pg_name (i := 2) sc_L_put.nd rfl (.inl rfl)) (pgs_cons (pg_name (i := 3) sc_L_put.nd rfl (.inl rfl)) pgs_nil)))
      (pss_cons (ps_while PassesOwn.never (pt_cmpR (op_neD hr.units) (pv 2) (pe_lst pa_nil) (nomark _))
      (pss_one (ps_expr (pe_bm0 PySem.F.plainAttrs_list PySem.F.slot_list_pop PySem.F.type_list_pop mt_pop (pv 2)))))
      (pss_one (ps_expr (pe_bm PySem.F.plainAttrs_list PySem.F.slot_list_extend PySem.F.type_list_extend mt_extend (pv 2) (pa_cons (pe_fn D_L_deep (by decide) hr (by rfl) pass0 (pa_cons (pv 3) pa_nil)) pa_nil))))))), ?_⟩
    have nB : (del H hr0) hr0 = none := by unfold del; rw [if_pos rfl]
    refine ⟨_, rfl, _, rfl, hp, sp, [.ref hr0], [.ref so], rfl, ex_l (del_ex _ _) hA, ex_l (del_ex _ _) hB, RZ.for_zipL (K := K) (xs := [V.ref hr0]) (ys := [V.ref so]) rfl (fun i σ' H' => (i = 0 ∧ σ' = [some (.ref hp), some (.ref sp), none, none] ∧ H' = H) ∨ (i = 1 ∧ Ex (del H hr0) H' ∧ H' hr0 = some (.lst (ms.map V.int)))) (.inl ⟨rfl, rfl, rfl⟩) (fun i σ' H' hP => ?_) (fun i x y T σ' H' hx hy hP nT => ?_) (fun σ' H' hP => ?_)⟩
    · rcases hP with ⟨_, _, rfl⟩ | ⟨_, e, _⟩
      · exact ⟨ex_l (del_ex _ _) hA, ex_l (del_ex _ _) hB⟩
      · exact ⟨ex_l e hA, ex_l e hB⟩
    · have i0 : i = 0 := by
        have := (List.getElem?_eq_some_iff.mp hx).1
        have hl1 : ([V.ref hr0] : List V).length = 1 := rfl
        omega
      subst i0
      obtain rfl : V.ref hr0 = x := Option.some.inj hx
      obtain rfl : V.ref so = y := Option.some.inj hy
      obtain ⟨rfl, rfl⟩ : σ' = [some (.ref hp), some (.ref sp), none, none] ∧ H' = H := by
        rcases hP with ⟨_, h1, h2⟩ | ⟨h, _⟩
        · exact ⟨h1, h2⟩
        · exact nomatch h
      refine ⟨T, _, rfl, st_of upd_same, rfl, _, _, rfl, _, _, rfl, rfl, ?_⟩
      have nT2 : hr0 ≠ T := ne_of_none h0 nT
      have eT : Ex (del H' hr0) (upd H' T (.tup [.ref hr0, .ref so])) := (del_ex _ _).trans (Ex.new nT)
      refine q_while (fun m σ2 H2 => σ2 = [some (.ref hp), some (.ref sp), some (.ref hr0), some (.ref so)] ∧ Ex (del H' hr0) H2 ∧ ∃ xs : List Int, xs.length = m ∧ H2 hr0 = some (.lst (xs.map V.int))) ns.length ⟨rfl, eT, ns, rfl, by rw [upd_ne nT2]; exact h0⟩ (fun m σ2 H2 hW => ?_)
      obtain ⟨rfl, e2, xs, rfl, hx2⟩ := hW
      refine ⟨!decide (xs = []), et_test (ev_opL2 (ys := ([] : List Int).map V.int) (ev_var rfl) (el_lst ea_nil (by decide)) fun q2 H3 h3 e3 => rv_neI (ns := xs) (ms := []) (sq_of (e3 _ _ hx2)) (sq_of h3)), fun hb H3 e3 => ?_, fun hb H3 e3 => ?_⟩
      · have hne : xs ≠ [] := by simpa using hb
        have hx3 := e3 _ _ hx2
        obtain ⟨z, hz⟩ : ∃ z, (xs.map V.int)[(xs.map V.int).length - 1]? = some z := by
          have : 0 < (xs.map V.int).length := by
            rw [List.length_map]
            exact List.length_pos_iff.mpr hne
          exact ⟨_, List.getElem?_eq_getElem (by omega)⟩
        refine ⟨fun σ4 H4 => σ4 = [some (.ref hp), some (.ref sp), some (.ref hr0), some (.ref so)] ∧ Ex (del H' hr0) H4 ∧ H4 hr0 = some (.lst (xs.dropLast.map V.int)), fun σ4 H4 hN => ?_, ?_⟩
        · obtain ⟨h1, h2, h3⟩ := hN
          have : 0 < xs.length := List.length_pos_iff.mpr hne
          exact ⟨xs.dropLast.length, by rw [List.length_dropLast]; omega, h1, h2, _, rfl, h3⟩
        · exact ⟨_, rfl, .inl ⟨rfl, _, sq_of hx3⟩, hr0, xs.map V.int, z, rfl, rfl, hx3, hz, rfl, Ex.mut (e2.trans e3) nB, by rw [upd_same, dropL_map]⟩
      · have he : xs = [] := by simpa using hb
        subst he
        have hx3 := e3 _ _ hx2
        exact ⟨_, rfl, .inl ⟨rfl, _, sq_of hx3⟩, el_call (ea_cons (ev_var rfl) ea_nil) (el_deep1 (ex_l (e2.trans e3) hC) hm) H3 (Ex.refl _) _ fun b H4 nb e4 hb4 => ⟨hr0, b, [], ms.map V.int, rfl, rfl, e4 _ _ hx3, hb4, sz_of (by rw [List.length_map]; show 0 + ms.length ≤ 100000; omega), .inr ⟨rfl, Ex.mut (e2.trans (e3.trans e4)) nB, upd_same⟩⟩⟩
    · rcases hP with ⟨h, _⟩ | ⟨_, e, h⟩
      · exact nomatch (show (1 : Nat) = 0 from h)
      · exact q H' e h
/-! ### _law_door_right -/
abbrev st_L_door_right : Stmt := topS 41
theorem sc_L_door_right : FnScope ["_law_ask", "_law_lists", "_law_others", "_law_handed", "_law_fixed", "_law_told_lists", "_law_text", "_law_due", "_law_some", "_law_again"] ["_law_ask", "_law_lists", "_law_others"] (defScope st_L_door_right) := ⟨rfl, rfl, rfl, by decide +kernel, rfl, by decide +kernel, by decide +kernel⟩

/-- what is asked of the two rows -/
def sp_L_door_right (P : Program) (w : World) (K : PySem.W.Frag) (mg : Str → Option Value) (base : Heap) : Sp := fun vs H Q _ => ∃ (f pl r po o : Addr) (ns ms : List Int) (Af : List Int → List PyData) (Ok : List Int → Prop), vs = [.ref f, .ref pl, .ref po] ∧ Ask P w K mg base 30 H f (spAsk K Af Ok) ∧ SqL K H pl [.ref r] ∧ SqL K H r (ns.map V.int) ∧ SqL K H po [.ref o] ∧ SqL K H o (ms.map V.int) ∧
  ns.length ≤ 20 ∧ ms.length ≤ 20 ∧ Ok ns ∧ Ok ms ∧ Shw (.list (Af ns)) ∧ Shw (.list (Af ms)) ∧ RetV (.bl true) H Q
theorem dp_one {K : PySem.W.Frag} {H : Hp} {hp hr : Addr} {ns : List Int} (h1 : SqL K H hp [.ref hr]) (h2 : SqL K H hr (ns.map V.int)) : Dp K H (.ref hp) (.list (dRows [ns])) := .lst h1 (.cons (dp_list h2) .nil)
theorem del_tup {H : Hp} {r : Addr} {xs : List V} (h : H r = some (.lst xs)) : ∀ a ys, H a = some (.tup ys) → (del H r) a = some (.tup ys) := fun a ys ha => by
  rw [del_ne (fun z => by rw [z, h] at ha; cases ha)]
  exact ha
theorem d_L_door_right (G : Gs mg) (T : Ts K mg CA CC CN) (p : Pl K mg "_law_door_right" st_L_door_right ["_law_ask", "_law_lists", "_law_others"]) (D_L_deep : Def P w K mg base CX0 4 "_law_deep" ["_law_thing"] (sp_L_deep K)) (D_L_spoilt : Def P w K mg base CX0 3 "_law_spoilt" ["_law_found"] (sp_L_spoilt K)) (D_L_put : Def P w K mg base CX0 5 "_law_put" ["_law_handed", "_law_some"] (sp_L_put K)) : DefG P w K mg base 31 "_law_door_right" ["_law_ask", "_law_lists", "_law_others"] (sp_L_door_right P w K mg base) := by
  refine p.okG (k := 30) sc_L_door_right (fun vs H Q E h => ?_) (fun f cdv A outer s H vs Q E hr gd h => ?_)
  · obtain ⟨f0, pl, r, po, o, ns, ms, Af, Ok, rfl, _⟩ := h
    rfl
  · obtain ⟨f0, pl, r, po, o, ns, ms, Af, Ok, rfl, hA, hL, hR, hLo, hO, hl, hm, ok1, ok2, sh1, sh2, q⟩ := h
    refine ⟨_, (pss_cons (ps_set (i := 3) sc_L_door_right.nd rfl (.inl rfl) (pe_fn D_L_deep (by decide) hr (by rfl) pass0 (pa_cons (pv 1) pa_nil)))
      (pss_cons (ps_asg (pe_callA (k := 30) (i := 0) hr rfl (.inl rfl) pass0 (pa_cons (pv 3) pa_nil)) (pg_tup rfl (pgs_cons (pg_name (i := 4) sc_L_door_right.nd rfl (.inl rfl)) (pgs_cons (pg_name (i := 5) sc_L_door_right.nd rfl (.inl rfl)) pgs_nil))))
      (pss_cons (ps_par (i := 6) (j := 7) (by rfl) sc_L_door_right.nd rfl rfl (by decide) rfl rfl (pa_cons (pe_callTy (call_strD gd hr.units) (by rfl) G.n_str (by decide +kernel) (pa_cons (pv 4) pa_nil)) (pa_cons (pe_callTy (call_strD gd hr.units) (by rfl) G.n_str (by decide +kernel) (pa_cons (pe_ix ix_tup (pe_callA (k := 30) (i := 0) hr rfl (.inl rfl) pass0 (pa_cons (pe_fn D_L_deep (by decide) hr (by rfl) pass0 (pa_cons (pv 2) pa_nil)) pa_nil)) pe_int (fun _ _ => rfl)) pa_nil)) pa_nil)) (by rfl))
      (pss_cons (ps_if (pt_cmpR (op_neD hr.units) (pv 3) (pv 1) (nomark _))
      (pss_one (ps_ret pe_bl))
      pss_nil)
      (pss_cons (ps_expr (pe_fn D_L_spoilt (by decide) hr (by rfl) pass0 (pa_cons (pv 5) pa_nil)))
      (pss_cons (ps_if (PW.pt (pw_or (pt_cmpR op_ne (pe_callTy (call_strD gd hr.units) (by rfl) G.n_str (by decide +kernel) (pa_cons (pe_ix ix_tup (pe_callA (k := 30) (i := 0) hr rfl (.inl rfl) pass0 (pa_cons (pv 3) pa_nil)) pe_int (fun _ _ => rfl)) pa_nil)) (pv 6) (nomark _)) (pw_or1 (pt_cmpR (op_neD hr.units) (pv 3) (pv 1) (nomark _)))))
      (pss_one (ps_ret pe_bl))
      pss_nil)
      (pss_cons (ps_for PassesOwn.never rfl (pi_tup (pe_tup (pa_cons (pe_tup (pa_cons (pv 2) (pa_cons (pv 7) pa_nil))) (pa_cons (pe_tup (pa_cons (pv 1) (pa_cons (pv 6) pa_nil))) pa_nil)))) (pg_tup rfl (pgs_cons (pg_name (i := 8) sc_L_door_right.nd rfl (.inl rfl)) (pgs_cons (pg_name (i := 9) sc_L_door_right.nd rfl (.inl rfl)) pgs_nil)))
      (pss_cons (ps_expr (pe_fn D_L_put (by decide) hr (by rfl) pass0 (pa_cons (pv 3) (pa_cons (pv 8) pa_nil))))
      (pss_one (ps_if (PW.pt (pw_or (pt_cmpR op_ne (pe_callTy (call_strD gd hr.units) (by rfl) G.n_str (by decide +kernel) (pa_cons (pe_ix ix_tup (pe_callA (k := 30) (i := 0) hr rfl (.inl rfl) pass0 (pa_cons (pv 3) pa_nil)) pe_int (fun _ _ => rfl)) pa_nil)) (pv 9) (nomark _)) (pw_or1 (pt_cmpR (op_neD hr.units) (pv 3) (pv 8) (nomark _)))))
      (pss_one (ps_ret pe_bl))
      pss_nil))))
      (pss_one (ps_ret pe_bl))))))))), ?_⟩
    refine q_asgR (ev_deep2 (ev_var rfl) hL hR (by omega) H (Ex.refl _) _ fun hp hw H1 nhp nhr ne e1 hhp hhr => ?_)
    have eqs : ∀ xs : List Int, PyData.eqv (.list (dRows [xs])) (.list (dRows [xs])) = true := fun xs => by rw [eqv_rowsL, decide_eq_true rfl]
    refine q_asgG (ev_ask (ns := ns) rfl (hA.mono e1) (er_var (ev_var rfl) (sq_of hhp) (sq_of hhr)) ok1 H1 (Ex.refl _) _ fun t fx tl us ws H2 nt nfx ntl e2 ht hfx hd htl hlw hfl => ⟨t, _, rfl, st_of ht, rfl, _, _, rfl, _, _, rfl, rfl, ?_⟩)
    have e12 := e1.trans e2
    refine q_par (v := .str (PyData.list (Af ns)).shown) (w := .str (PyData.list (Af ms)).shown) (ev_strL (ed_ev (ev_var rfl) (.lst (sq_of hfx) hd)) sh1) (ev_strL (ed_ask (ns := ms) rfl (hA.mono e12) (fun H3 e3 Q' q' => ev_deep2 (ev_var rfl) (ex_l e12 hLo) (ex_l e12 hO) (by omega) H3 e3 _ fun p r2 H4 _ _ _ e4 h1 h2 => q' p r2 H4 e4 (sq_of h1) (sq_of h2)) ok2) sh2) fun H3 e3 => ?_
    refine q_when (b := false) (et_test (ev_is (ev_neD (K := K) (d := .list (dRows [ns])) (e := .list (dRows [ns])) (ed_ev (ev_var rfl) (dp_one (sq_of ((e2.trans e3) _ _ hhp)) (sq_of ((e2.trans e3) _ _ hhr)))) (ed_ev (ev_var rfl) (dp_one (ex_l (e12.trans e3) hL) (ex_l (e12.trans e3) hR))) (shaped_rows _) (shaped_rows _)) (by rw [eqs]; rfl))) (fun hb => nomatch hb) fun _ H4 e4 => ?_
    have e24 : Ex H2 H4 := e3.trans e4
    refine q_dropR (ev_var rfl H4 (Ex.refl _) _ fun H5 e5 => .inr ⟨by decide, tl, ws, rfl, (e24.trans e5) _ _ htl, hlw, hfl, fun tu0 H6 e6 => ?_⟩)
    have e16 : Ex H1 (upd H6 tl (.lst (ws ++ [.ref tu0]))) := Ex.mut (e2.trans (e24.trans (e5.trans e6))) ntl
    revert e16
    generalize upd H6 tl (.lst (ws ++ [.ref tu0])) = H7
    intro e17
    have e7 : Ex H H7 := e1.trans e17
    refine q_when (b := false) (et_is (et_or (a := false) (b := false) (et_test (ev_is (ev_op (ev_strL (ed_ask (ns := ns) rfl (hA.mono e7) (er_var (ev_var rfl) (sq_of (e17 _ _ hhp)) (sq_of (e17 _ _ hhr))) ok1) sh1) (ev_var rfl) (rv_ne rfl)) (by rw [decide_eq_true rfl]; rfl))) fun _ => et_test (ev_is (ev_neD (K := K) (d := .list (dRows [ns])) (e := .list (dRows [ns])) (ed_ev (ev_var rfl) (dp_one (sq_of (e17 _ _ hhp)) (sq_of (e17 _ _ hhr)))) (ed_ev (ev_var rfl) (dp_one (ex_l e7 hL) (ex_l e7 hR))) (shaped_rows _) (shaped_rows _)) (by rw [eqs]; rfl))) rfl) (fun hb => nomatch hb) fun _ H8 e8 => ?_
    have e18 : Ex H1 H8 := e17.trans e8
    have hh8 : H8 hw = some (.lst (ns.map V.int)) := e18 _ _ hhr
    -- one turn: the row is put, asked, looked at
    have turn : ∀ (BB : Hp) (σ' : L2.St) (H' : Hp) (D0 : Ends) (tuF : TS) (ps so : Addr) (xs ys : List Int) (tx : Str), Ex H BB → BB hp = some (.lst [.ref hw]) → BB hw = none → Ex BB H' → H' hw = some (.lst (xs.map V.int)) → xs.length ≤ 20 → σ'[0]? = some (some (.ref f0)) → σ'[3]? = some (some (.ref hp)) → σ'[8]? = some (some (.ref ps)) → σ'[9]? = some (some (.str tx)) →
        SqL K H ps [.ref so] → SqL K H so (ys.map V.int) → ys.length ≤ 20 → Ok ys → Shw (.list (Af ys)) → tx = (PyData.list (Af ys)).shown → (∀ H2, Ex BB H2 → H2 hw = some (.lst (ys.map V.int)) → D0.nx σ' H2) →
        tSeq (tDrop (tCall (sp_L_put K) [] E0 (tCons (tVar 3) (tCons (tVar 8) tNil)))) (tIfS (tOr (tTest (tOp rNe (tCB (rStrD K) (tCons (tOp (rIxT K) (tCallA P w K mg base 30 0 E0 (tCons (tVar 3) tNil)) (tC (.int 0))) tNil)) (tVar 9))) (tTest (tOp (rNeD K) (tVar 3) (tVar 8)))) tuF tNext) D0 σ' H' := fun BB σ' H' D0 tuF ps so xs ys tx eHB hBp nBw eB hx hxl s0 s3 s8 s9 hP1 hP2 hyl oky shy htx k0 => by
      have eD : Ex BB (del H' hw) := ex_del eB nBw
      refine q_dropR (ea_cons (ev_var s3) (ea_cons (ev_var s8) ea_nil) H' (Ex.refl _) _ fun H2 e2 => ⟨hp, hw, ps, so, xs, ys, rfl, e2 _ _ hx, sq_of (ex_del (eB.trans e2) nBw _ _ hBp), ex_l (eHB.trans (ex_del (eB.trans e2) nBw)) hP1, ex_l (eHB.trans (ex_del (eB.trans e2) nBw)) hP2, by omega, by omega, fun H3 e3 h3 => ?_⟩)
      have eB3 : Ex BB H3 := (ex_del (eB.trans e2) nBw).trans e3
      have e3H : Ex H H3 := eHB.trans eB3
      refine s_when (b := false) (et_is (et_or (a := false) (b := false) (et_test (ev_is (ev_op (ev_strL (ed_ask (ns := ys) s0 (hA.mono e3H) (er_var (ev_var s3) (sq_of (eB3 _ _ hBp)) (sq_of h3)) oky) shy) (ev_var s9) (rv_ne rfl)) (by rw [htx, decide_eq_true rfl]; rfl))) fun _ => et_test (ev_is (ev_neD (K := K) (d := .list (dRows [ys])) (e := .list (dRows [ys])) (ed_ev (ev_var s3) (dp_one (sq_of (eB3 _ _ hBp)) (sq_of h3))) (ed_ev (ev_var s8) (dp_one (ex_l e3H hP1) (ex_l e3H hP2))) (shaped_rows _) (shaped_rows _)) (by rw [eqs]; rfl))) rfl) (fun hb => nomatch hb) fun _ H4 e4 => k0 H4 (eB3.trans e4) (e4 _ _ h3)
    refine q_forTA (K := K) (ta_22 (ev_var rfl) (ev_var rfl) (ev_var rfl) (ev_var rfl)) (fun H9 => del H9 hw) (fun H9 e9 => del_tup (e9 _ _ hh8)) (fun H9 m σ' H' => ∃ z8 z9, σ' = [some (.ref f0), some (.ref pl), some (.ref po), some (.ref hp), some (.ref fx), some (.ref tl), some (.str (PyData.list (Af ns)).shown), some (.str (PyData.list (Af ms)).shown), z8, z9] ∧ Ex H8 H9 ∧ Ex (del H9 hw) H' ∧ ∃ xs : List Int, xs.length ≤ 20 ∧ H' hw = some (.lst (xs.map V.int))) (fun H9 e9 => ⟨_, _, rfl, e9, del_ex _ _, ns, hl, e9 _ _ hh8⟩) (fun H9 m σ' H' hP => by obtain ⟨_, _, _, _, e, _⟩ := hP; exact e) (fun H9 σ' H' e9 hP => ?_) (fun H9 σ' H' e9 hP => ?_) (fun H9 σ' H' e9 hP => ?_)
    · obtain ⟨z8, z9, rfl, _, eB, xs, hxl, hx⟩ := hP
      have nw : (del H9 hw) hw = none := by unfold del; rw [if_pos rfl]
      exact turn (del H9 hw) _ H' _ _ po o xs ms _ (ex_del (e1.trans (e18.trans e9)) nhr) (by rw [del_ne ne]; exact (e18.trans e9) _ _ hhp) nw eB hx hxl rfl rfl rfl rfl hLo hO hm ok2 sh2 rfl fun H2 e2 h2 => ⟨_, _, rfl, e9, e2, ms, hm, h2⟩
    · obtain ⟨z8, z9, rfl, _, eB, xs, hxl, hx⟩ := hP
      have nw : (del H9 hw) hw = none := by unfold del; rw [if_pos rfl]
      exact turn (del H9 hw) _ H' _ _ pl r xs ns _ (ex_del (e1.trans (e18.trans e9)) nhr) (by rw [del_ne ne]; exact (e18.trans e9) _ _ hhp) nw eB hx hxl rfl rfl rfl rfl hL hR hl ok1 sh1 rfl fun H2 e2 h2 => ⟨_, _, rfl, e9, e2, ns, hl, h2⟩
    · obtain ⟨z8, z9, rfl, _, eB, _⟩ := hP
      exact s_ret (v := .bl true) ev_c fun H10 e10 => q H10 ((ex_del (e1.trans (e18.trans e9)) nhr).trans (eB.trans e10))
/-! ### _law_two -/
abbrev st_L_two : Stmt := topS 42
theorem sc_L_two : FnScope ["_law_found"] ["_law_found"] (defScope st_L_two) := ⟨rfl, rfl, rfl, by decide +kernel, rfl, by decide +kernel, by decide +kernel⟩

def sp_L_two (K : PySem.W.Frag) : Sp := sp_two
theorem d_L_two (G : Gs mg) (T : Ts K mg CA CC CN) (p : Pl K mg "_law_two" st_L_two ["_law_found"])  : Def P w K mg base CX0 1 "_law_two" ["_law_found"] (sp_L_two K) := by
  refine p.ok (k := 0) sc_L_two (fun vs H Q E h => ?_) (fun f cdv A outer s H vs Q E hr h => ?_)
  · obtain ⟨x, rfl, _⟩ := h
    rfl
  · obtain ⟨x, rfl, q⟩ := h
    refine ⟨_, (pss_one (ps_ret (pe_tup (pa_cons (pv 0) (pa_cons (pv 0) pa_nil))))), ?_⟩
    exact s_retU (eu_tup (ea_cons (ev_var rfl) (ea_cons (ev_var rfl) ea_nil)) (show 2 ≤ 100000 by decide)) fun p H1 np e1 hp => q p H1 np e1 hp
/-! ### _law_doors_right -/
abbrev st_L_doors_right : Stmt := topS 43
theorem sc_L_doors_right : FnScope ["_law_asks", "_law_lists", "_law_others", "_law_ask"] ["_law_asks", "_law_lists", "_law_others"] (defScope st_L_doors_right) := ⟨rfl, rfl, rfl, by decide +kernel, rfl, by decide +kernel, by decide +kernel⟩

/-- one that may be asked of both rows -/
def DoorP (P : Program) (w : World) (K : PySem.W.Frag) (mg : Str → Option Value) (base : Heap) (ns ms : List Int) (H : Hp) (v : V) : Prop := ∃ (f : Addr) (Af : List Int → List PyData) (Ok : List Int → Prop), v = .ref f ∧ Ask P w K mg base 30 H f (spAsk K Af Ok) ∧ Ok ns ∧ Ok ms ∧ Shw (.list (Af ns)) ∧ Shw (.list (Af ms))
def sp_L_doors_right (P : Program) (w : World) (K : PySem.W.Frag) (mg : Str → Option Value) (base : Heap) : Sp := fun vs H Q _ => ∃ (pa pl r po o : Addr) (ns ms : List Int) (fs : List V), vs = [.ref pa, .ref pl, .ref po] ∧ H pa = some (.lst fs) ∧ fs.length ≤ 1000 ∧ (∀ v ∈ fs, DoorP P w K mg base ns ms H v) ∧ SqL K H pl [.ref r] ∧ SqL K H r (ns.map V.int) ∧ SqL K H po [.ref o] ∧ SqL K H o (ms.map V.int) ∧
  ns.length ≤ 20 ∧ ms.length ≤ 20 ∧ RetV (.bl true) H Q
theorem ev_door {P : Program} {w : World} {K : PySem.W.Frag} {mg : Str → Option Value} {base : Heap} {H : Hp} {f pl r po o : Addr} {ns ms : List Int} (hD : DoorP P w K mg base ns ms H (.ref f)) (hL : SqL K H pl [.ref r]) (hR : SqL K H r (ns.map V.int)) (hLo : SqL K H po [.ref o]) (hO : SqL K H o (ms.map V.int)) (hl : ns.length ≤ 20) (hm : ms.length ≤ 20) :
    SpV (sp_L_door_right P w K mg base) [.ref f, .ref pl, .ref po] H (.bl true) := spv fun H1 e Q q E => by
  obtain ⟨f2, Af, Ok, hf, hA, k1, k2, k3, k4⟩ := hD
  cases hf
  exact ⟨f, pl, r, po, o, ns, ms, Af, Ok, rfl, hA.mono e, ex_l e hL, ex_l e hR, ex_l e hLo, ex_l e hO, hl, hm, k1, k2, k3, k4, q⟩
theorem d_L_doors_right (G : Gs mg) (T : Ts K mg CA CC CN) (p : Pl K mg "_law_doors_right" st_L_doors_right ["_law_asks", "_law_lists", "_law_others"]) (D_L_door_right : DefG P w K mg base 31 "_law_door_right" ["_law_ask", "_law_lists", "_law_others"] (sp_L_door_right P w K mg base)) : DefG P w K mg base 32 "_law_doors_right" ["_law_asks", "_law_lists", "_law_others"] (sp_L_doors_right P w K mg base) := by
  refine p.okG (k := 31) sc_L_doors_right (fun vs H Q E h => ?_) (fun f cdv A outer s H vs Q E hr gd h => ?_)
  · obtain ⟨pa, pl, r, po, o, ns, ms, fs, rfl, _⟩ := h
    rfl
  · obtain ⟨pa, pl, r, po, o, ns, ms, fs, rfl, hpa, hfl, hD, hL, hR, hLo, hO, hl, hm, q⟩ := h
    refine ⟨_, (pss_one (ps_ret (pe_callB (cr_all rfl) (by rfl) G.n_all (by decide +kernel) (pa_cons (pe_lc (own := [("_law_ask", 3)]) (g := (gName 3)) (tt := tYes) (te := (tCall (sp_L_door_right P w K mg base) [] _ (tCons (tVar 3) (tCons (tVar 1) (tCons (tVar 2) tNil))))) rfl sc_L_doors_right.nd (pi_list (pv 0)) (blkOk_by (own := [("_law_ask", 3)]) (N := ["_law_asks", "_law_lists", "_law_others", "_law_ask"]) (sc := defScope st_L_doors_right) (by decide +kernel)) (fun _ _ _ _ _ => (pg_name (i := 3) sc_L_doors_right.nd rfl (.inl rfl))) (fun _ _ _ _ _ => pts_nil) (fun _ _ _ _ _ => (pe_fnG D_L_door_right (by decide) hr gd (by rfl) pass0 (pa_cons (pv 3) (pa_cons (pv 1) (pa_cons (pv 2) pa_nil)))))) pa_nil)))), ?_⟩
    refine s_ret (v := .bl true) (ev_allL (xs := fs) (ev_var rfl) (sq_of hpa) (by omega) (fun x => rfl) fun j x H1 e1 hj => ?_) fun H2 e2 => q H2 e2
    obtain ⟨f2, Af, Ok, rfl, hA, k⟩ := hD x (List.mem_of_getElem? hj)
    exact ev_call (ea_cons (ev_var rfl) (ea_cons (ev_var rfl) (ea_cons (ev_var rfl) ea_nil))) (ev_door ⟨f2, Af, Ok, rfl, hA.mono e1, k⟩ (ex_l e1 hL) (ex_l e1 hR) (ex_l e1 hLo) (ex_l e1 hO) hl hm)
/-! ### _law_comes -/
abbrev st_L_comes : Stmt := topS 44
theorem sc_L_comes : FnScope ["_law_row", "_law_found"] ["_law_row"] (defScope st_L_comes) := ⟨rfl, rfl, rfl, by decide +kernel, rfl, by decide +kernel, by decide +kernel⟩

/-- of a row of counts: [True, True], and the signs -/
def sp_L_comes (K : PySem.W.Frag) (CC CN : Addr) : Sp := fun vs H Q _ => ∃ (a : Addr) (ns : List Int), vs = [.ref a] ∧ SqL K H a (ns.map V.int) ∧ ns.length ≤ 20 ∧ Good ns ∧
  ∀ t fx tl us ws H2, H t = none → H fx = none → H tl = none → Ex H H2 → H2 t = some (.tup [.ref fx, .ref tl]) → H2 fx = some (.lst us) → DpAll K H2 us [.bool true, .bool true] → H2 tl = some (.lst ws) → ws.length ≤ 1000 → (∀ u ∈ ws, FlatX u) → Q (.ref t) H2
theorem d_L_comes (G : Gs mg) (T : Ts K mg CA CC CN) (p : Pl K mg "_law_comes" st_L_comes ["_law_row"]) (D_comes : Def P w K mg base CX0 4 "comes" ["row"] (sp_comes K CC CN)) (D_Comes_shows : Mtd P w K mg base CX0 2 "shows" CC ["self", "row"] (sp_Comes_shows K CC CN)) (D_Never_shows : Mtd P w K mg base CX0 2 "shows" CN ["self", "row"] (sp_Never_shows K CC CN)) : Def P w K mg base CX0 5 "_law_comes" ["_law_row"] (sp_L_comes K CC CN) := by
  refine p.ok (k := 4) sc_L_comes (fun vs H Q E h => ?_) (fun f cdv A outer s H vs Q E hr h => ?_)
  · obtain ⟨a, ns, rfl, _⟩ := h
    rfl
  · obtain ⟨a, ns, rfl, hS, hl, hg, q⟩ := h
    refine ⟨_, (pss_cons (ps_set (i := 1) sc_L_comes.nd rfl (.inl rfl) (pe_fn D_comes (by decide) hr (by rfl) pass0 (pa_cons (pv 0) pa_nil)))
      (pss_one (ps_ret (pe_tup (pa_cons (pe_lst (pa_cons (pe_callB call_isi (by rfl) G.n_isinstance (by decide +kernel) (pa_cons (pv 1) (pa_cons (pe_glob (v := .ref CC) (by rfl) T.g_Comes rfl) pa_nil))) (pa_cons (pe_mth D_Comes_shows (by decide) hr pass0 (pv 1) (pa_cons (pe_callTy call_list_of (by rfl) G.n_list (by decide +kernel) (pa_cons (pv 0) pa_nil)) pa_nil)) pa_nil))) (pa_cons (pe_ifExp (pt_val (pe_callB call_isi (by rfl) G.n_isinstance (by decide +kernel) (pa_cons (pv 1) (pa_cons (pe_glob (v := .ref CC) (by rfl) T.g_Comes rfl) pa_nil)))) (pe_fld (pv 1) rfl) (pe_lst pa_nil)) pa_nil)))))), ?_⟩
    refine q_asgC (ec_comes (ev_var rfl) hS hl hg) fun x p H1 nx np e1 hc => ?_
    obtain ⟨hP1, hPc⟩ := patF_ok hg (by decide) (manyF_pos hg)
    have hPl : (patF ns 0).length ≤ 20 := by have h1 := congrArg List.length hPc; rw [countsF_len] at h1; omega
    revert hc hPl hPc
    generalize patF ns 0 = PT
    intro hc hPc hPl
    obtain ⟨⟨dx, hx1⟩, hp1⟩ := id hc
    have hS1 := ex_l e1 hS
    refine rt_pair (us := [V.bl true, .bl true]) (v := .ref p) (el_lst (ea_cons (ev_isiC (ea_cons (ev_var rfl) (ea_cons ev_c ea_nil)) T.tC hx1 T.kCC) (ea_cons (ev_is (ev_shows_cN (ev_var rfl) (el_list (ev_var rfl) hS1) hc (by omega)) (by rw [decide_eq_true hPc])) ea_nil)) (show 2 ≤ 100000 by decide)) (fun H2 e2 => ev_if (b := true) (et_B (ev_isiC (ea_cons (ev_var rfl) (ea_cons ev_c ea_nil)) T.tC (e2 _ _ hx1) T.kCC)) (fun _ => ev_fldS T (ev_var rfl) (hc.mono e2)) (fun hb => nomatch hb)) fun fx t H3 nfx e3 hfx nt => ?_
    have eA : Ex H (upd H3 t (.tup [.ref fx, .ref p])) := e1.trans (e3.trans (Ex.new nt))
    exact q t fx p [.bl true, .bl true] (PT.map V.int) _ (fresh_back (e1.trans e3) nt) (fresh_back e1 nfx) np eA upd_same ((Ex.new nt) _ _ hfx) (.cons (.bl true) (.cons (.bl true) .nil)) ((e3.trans (Ex.new nt)) _ _ hp1) (by rw [List.length_map]; omega) (flat_ints2 PT)
/-! ### law -/
abbrev st_law : Stmt := topS 45
theorem sc_law : FnScope ["_law_script", "_law_signs", "_law_by", "_law_one", "_law_two_here", "_law_mine", "_law_yours", "_law_asks", "_law_here"] ["_law_script"] (defScope st_law) := ⟨rfl, rfl, rfl, by decide +kernel, rfl, by decide +kernel, by decide +kernel⟩

def sp_law (K : PySem.W.Frag) (TL : List (Addr × Str)) : Sp := fun vs H Q _ => ∃ (a : Addr) (ns : List Int), vs = [.ref a] ∧ SqL K H a (ns.map V.int) ∧ ns.length ≤ 63 ∧ LamX.Tabs TL H ∧ ∀ H', Q (.bl true) H'
abbrev loopS (i : Nat) : Stmt := (forBody ((defBody st_law).getD 1 stDf)).getD i stDf
abbrev lamA (i j : Nat) : Lam := lamOf "law.<locals>.<lambda>" (argOf j (valOf (loopS i)))
abbrev lamB (i j : Nat) : Lam := lamOf "law.<locals>.<lambda>" (argOf j (rightOf (valOf (loopS i))))
abbrev lam5 : Lam := lamOf "law.<locals>.<lambda>" (argOf 0 (rightOf (argOf 0 (unOf (testOf (loopS 5))))))
abbrev lam11 : Lam := lamOf "law.<locals>.<lambda>" (argOf 0 (argOf 0 (unOf (testOf (loopS 11)))))
theorem mkd_mono {i j : Nat} {x : Str} {C : Addr} {ps : List Str} {sp : Sp} (d : Mkd P w K mg base CX0 i x C ps sp) (h : i ≤ j) : Mkd P w K mg base CX0 j x C ps sp := by
  obtain ⟨f, fd, F, M, a, b⟩ := d.ex
  exact ⟨f, fd, F.mono h, M, a, b⟩
def rowL (ns : List Int) : Prop := ns.length ≤ 20
def rowG (ns : List Int) : Prop := ns.length ≤ 20 ∧ Good ns
def rowS (ns : List Int) : Prop := IsShape ns ∧ ns.sum ≤ 20
theorem one_int (v : Int) : ∀ u ∈ [V.int v], FlatX u := fun u hu => by
  obtain rfl := List.mem_singleton.mp hu
  exact .inl ⟨v, rfl⟩
theorem one_bl (b : Bool) : ∀ u ∈ [V.bl b], FlatX u := fun u hu => by
  obtain rfl := List.mem_singleton.mp hu
  exact .inr ⟨b, rfl⟩
theorem lc_counts (G : Gs mg) {j j2 : Nat} (hj : j ≤ 29) (hj2 : j2 ≤ 29) (D : Def P w K mg base CX0 j "counts" ["row"] (sp_counts K)) (D2 : Def P w K mg base CX0 j2 "_law_two" ["_law_found"] (sp_L_two K)) : LamC P w K mg base CX0 30 (lamA 4 0) (spAsk K (fun ns => (countsF ns).map .int) rowL) := by
  refine lam_of (k := 29) (N := ["_law_some"]) (x := "_law_some") ⟨rfl, rfl, rfl, by decide +kernel, rfl, by decide +kernel, by decide +kernel⟩ spAsk_len (fun _ _ _ _ => rfl) (fun f cd A outer s H vs Q E hr h => ?_)
  obtain ⟨hp, hw, ns, rfl, h1, h2, ok, q⟩ := h
  exact ⟨_, pe_fn D2 hj2 hr (by rfl) pass0 (pa_cons (pe_fn D hj hr (by rfl) pass0 (pa_cons (pe_ix ix_list (pv 0) pe_int (fun _ _ => rfl)) pa_nil)) pa_nil), ask_two (us := (countsF ns).map V.int) (el_call (ea_cons (ev_first (ev_var rfl) h1) ea_nil) (el_counts h2 ok)) (fun H2 => dp_ints _) (by rw [List.length_map]; rw [countsF_len]; exact Nat.le_trans ok (by decide)) (flat_ints2 _) q⟩
theorem lc_pattern (G : Gs mg) {j j2 : Nat} (hj : j ≤ 29) (hj2 : j2 ≤ 29) (D : Def P w K mg base CX0 j "pattern" ["row"] (sp_pattern K)) (D2 : Def P w K mg base CX0 j2 "_law_two" ["_law_found"] (sp_L_two K)) : LamC P w K mg base CX0 30 (lamA 4 1) (spAsk K (fun ns => (patternF ns).map .int) rowL) := by
  refine lam_of (k := 29) (N := ["_law_this"]) (x := "_law_this") ⟨rfl, rfl, rfl, by decide +kernel, rfl, by decide +kernel, by decide +kernel⟩ spAsk_len (fun _ _ _ _ => rfl) (fun f cd A outer s H vs Q E hr h => ?_)
  obtain ⟨hp, hw, ns, rfl, h1, h2, ok, q⟩ := h
  exact ⟨_, pe_fn D2 hj2 hr (by rfl) pass0 (pa_cons (pe_fn D hj hr (by rfl) pass0 (pa_cons (pe_ix ix_list (pv 0) pe_int (fun _ _ => rfl)) pa_nil)) pa_nil), ask_two (us := (patternF ns).map V.int) (el_call (ea_cons (ev_first (ev_var rfl) h1) ea_nil) (el_pattern h2 ok)) (fun H2 => dp_ints _) (by rw [List.length_map]; rw [patternF_len]; exact Nat.le_trans ok (by decide)) (flat_ints2 _) q⟩
theorem lc_number_in (G : Gs mg) {j j2 : Nat} (hj : j ≤ 29) (hj2 : j2 ≤ 29) (D : Def P w K mg base CX0 j "number_in" ["row"] (sp_number_in K)) (D2 : Def P w K mg base CX0 j2 "_law_two" ["_law_found"] (sp_L_two K)) : LamC P w K mg base CX0 30 lam5 (spAsk K (fun ns => [.int (numberF (patternF ns))]) rowL) := by
  refine lam_of (k := 29) (N := ["_law_some"]) (x := "_law_some") ⟨rfl, rfl, rfl, by decide +kernel, rfl, by decide +kernel, by decide +kernel⟩ spAsk_len (fun _ _ _ _ => rfl) (fun f cd A outer s H vs Q E hr h => ?_)
  obtain ⟨hp, hw, ns, rfl, h1, h2, ok, q⟩ := h
  exact ⟨_, pe_fn D2 hj2 hr (by rfl) pass0 (pa_cons (pe_lst (pa_cons (pe_fn D hj hr (by rfl) pass0 (pa_cons (pe_ix ix_list (pv 0) pe_int (fun _ _ => rfl)) pa_nil)) pa_nil)) pa_nil), ask_two (us := [.int (numberF (patternF ns))]) (el_lst (ea_cons (ev_call (ea_cons (ev_first (ev_var rfl) h1) ea_nil) (ev_number_in h2 ok)) ea_nil) (show 1 ≤ 100000 by decide)) (fun H2 => .cons (.int _) .nil) (show 1 ≤ 1000 by decide) (one_int _) q⟩
theorem lc_comes (G : Gs mg) {j j2 : Nat} (hj : j ≤ 29) (hj2 : j2 ≤ 29) (D : Def P w K mg base CX0 j "_law_comes" ["_law_row"] (sp_L_comes K CC CN)) : LamC P w K mg base CX0 30 (lamA 6 0) (spAsk K (fun ns => [.bool true, .bool true]) rowG) := by
  refine lam_of (k := 29) (N := ["_law_some"]) (x := "_law_some") ⟨rfl, rfl, rfl, by decide +kernel, rfl, by decide +kernel, by decide +kernel⟩ spAsk_len (fun _ _ _ _ => rfl) (fun f cd A outer s H vs Q E hr h => ?_)
  obtain ⟨hp, hw, ns, rfl, h1, h2, ok, q⟩ := h
  exact ⟨_, pe_fn D hj hr (by rfl) pass0 (pa_cons (pe_ix ix_list (pv 0) pe_int (fun _ _ => rfl)) pa_nil), rd_call (ea_cons (ev_first (ev_var rfl) h1) ea_nil) fun H1 e1 => ⟨hw, ns, rfl, ex_l e1 h2, ok.1, ok.2, fun t fx tl us ws H2 nt nfx ntl e2 ht hfx hd htl hlw hfl => q t fx tl us ws H2 (fresh_back e1 nt) (fresh_back e1 nfx) (fresh_back e1 ntl) (e1.trans e2) ht hfx hd htl hlw hfl⟩⟩
theorem lc_how_many (G : Gs mg) {j j2 : Nat} (hj : j ≤ 29) (hj2 : j2 ≤ 29) (D : Def P w K mg base CX0 j "how_many" ["row"] (sp_how_many K)) (D2 : Def P w K mg base CX0 j2 "_law_two" ["_law_found"] (sp_L_two K)) : LamC P w K mg base CX0 30 (lamA 6 1) (spAsk K (fun ns => [.int (manyF ns)]) rowG) := by
  refine lam_of (k := 29) (N := ["_law_this"]) (x := "_law_this") ⟨rfl, rfl, rfl, by decide +kernel, rfl, by decide +kernel, by decide +kernel⟩ spAsk_len (fun _ _ _ _ => rfl) (fun f cd A outer s H vs Q E hr h => ?_)
  obtain ⟨hp, hw, ns, rfl, h1, h2, ok, q⟩ := h
  exact ⟨_, pe_fn D2 hj2 hr (by rfl) pass0 (pa_cons (pe_lst (pa_cons (pe_fn D hj hr (by rfl) pass0 (pa_cons (pe_ix ix_list (pv 0) pe_int (fun _ _ => rfl)) pa_nil)) pa_nil)) pa_nil), ask_two (us := [.int (manyF ns)]) (el_lst (ea_cons (ev_call (ea_cons (ev_first (ev_var rfl) h1) ea_nil) (ev_how_manyG h2 ok.1 ok.2)) ea_nil) (show 1 ≤ 100000 by decide)) (fun H2 => .cons (.int _) .nil) (show 1 ≤ 1000 by decide) (one_int _) q⟩
theorem lc_pattern_by (G : Gs mg) {j j2 : Nat} (hj : j ≤ 29) (hj2 : j2 ≤ 29) (D : Def P w K mg base CX0 j "pattern_by" ["row", "number"] (sp_pattern_by K)) (D2 : Def P w K mg base CX0 j2 "_law_two" ["_law_found"] (sp_L_two K)) : LamC P w K mg base CX0 30 (lamB 7 0) (spAsk K (fun ns => (patF ns 0).map .int) rowG) := by
  refine lam_of (k := 29) (N := ["_law_some"]) (x := "_law_some") ⟨rfl, rfl, rfl, by decide +kernel, rfl, by decide +kernel, by decide +kernel⟩ spAsk_len (fun _ _ _ _ => rfl) (fun f cd A outer s H vs Q E hr h => ?_)
  obtain ⟨hp, hw, ns, rfl, h1, h2, ok, q⟩ := h
  exact ⟨_, pe_fn D2 hj2 hr (by rfl) pass0 (pa_cons (pe_fn D hj hr (by rfl) pass0 (pa_cons (pe_ix ix_list (pv 0) pe_int (fun _ _ => rfl)) (pa_cons pe_int pa_nil))) pa_nil), ask_two (us := (patF ns 0).map V.int) (el_call (ea_cons (ev_first (ev_var rfl) h1) (ea_cons ev_c ea_nil)) (el_pattern_by h2 ok.1 ok.2 (by decide) (manyF_pos ok.2))) (fun H2 => dp_ints _) (by rw [List.length_map]; have h3 := congrArg List.length (patF_ok ok.2 (by decide) (manyF_pos ok.2)).2; rw [countsF_len] at h3; have h4 := ok.1; omega) (flat_ints2 _) q⟩
theorem lc_number_of (G : Gs mg) {j j2 : Nat} (hj : j ≤ 29) (hj2 : j2 ≤ 29) (D : Def P w K mg base CX0 j "number_of" ["row"] (sp_number_of K)) (D2 : Def P w K mg base CX0 j2 "_law_two" ["_law_found"] (sp_L_two K)) : LamC P w K mg base CX0 30 (lamB 7 1) (spAsk K (fun ns => [.int (rankF [] ns)]) rowG) := by
  refine lam_of (k := 29) (N := ["_law_this"]) (x := "_law_this") ⟨rfl, rfl, rfl, by decide +kernel, rfl, by decide +kernel, by decide +kernel⟩ spAsk_len (fun _ _ _ _ => rfl) (fun f cd A outer s H vs Q E hr h => ?_)
  obtain ⟨hp, hw, ns, rfl, h1, h2, ok, q⟩ := h
  exact ⟨_, pe_fn D2 hj2 hr (by rfl) pass0 (pa_cons (pe_lst (pa_cons (pe_fn D hj hr (by rfl) pass0 (pa_cons (pe_ix ix_list (pv 0) pe_int (fun _ _ => rfl)) pa_nil)) pa_nil)) pa_nil), ask_two (us := [.int (rankF [] ns)]) (el_lst (ea_cons (ev_call (ea_cons (ev_first (ev_var rfl) h1) ea_nil) (ev_number_of h2 ok.1 ok.2)) ea_nil) (show 1 ≤ 100000 by decide)) (fun H2 => .cons (.int _) .nil) (show 1 ≤ 1000 by decide) (one_int _) q⟩
theorem lc_shape_of (G : Gs mg) {j j2 : Nat} (hj : j ≤ 29) (hj2 : j2 ≤ 29) (D : Def P w K mg base CX0 j "shape_of" ["row"] (sp_shape_of K)) (D2 : Def P w K mg base CX0 j2 "_law_two" ["_law_found"] (sp_L_two K)) : LamC P w K mg base CX0 30 (lamB 8 0) (spAsk K (fun ns => (shapeF ns).map .int) rowG) := by
  refine lam_of (k := 29) (N := ["_law_some"]) (x := "_law_some") ⟨rfl, rfl, rfl, by decide +kernel, rfl, by decide +kernel, by decide +kernel⟩ spAsk_len (fun _ _ _ _ => rfl) (fun f cd A outer s H vs Q E hr h => ?_)
  obtain ⟨hp, hw, ns, rfl, h1, h2, ok, q⟩ := h
  exact ⟨_, pe_fn D2 hj2 hr (by rfl) pass0 (pa_cons (pe_fn D hj hr (by rfl) pass0 (pa_cons (pe_ix ix_list (pv 0) pe_int (fun _ _ => rfl)) pa_nil)) pa_nil), ask_two (us := (shapeF ns).map V.int) (el_call (ea_cons (ev_first (ev_var rfl) h1) ea_nil) (el_shape_of h2 ok.1 ok.2)) (fun H2 => dp_ints _) (by rw [List.length_map]; unfold shapeF; rw [List.length_map, List.length_range]; have h3 := knownF_le ns; have h4 := ok.1; omega) (flat_ints2 _) q⟩
theorem lc_of_shape (G : Gs mg) {j j2 : Nat} (hj : j ≤ 29) (hj2 : j2 ≤ 29) (D : Def P w K mg base CX0 j "of_shape" ["shape"] (sp_of_shape K)) (D2 : Def P w K mg base CX0 j2 "_law_two" ["_law_found"] (sp_L_two K)) : LamC P w K mg base CX0 30 lam11 (spAsk K (fun ns => [.int (ofF ns)]) rowS) := by
  refine lam_of (k := 29) (N := ["_law_some"]) (x := "_law_some") ⟨rfl, rfl, rfl, by decide +kernel, rfl, by decide +kernel, by decide +kernel⟩ spAsk_len (fun _ _ _ _ => rfl) (fun f cd A outer s H vs Q E hr h => ?_)
  obtain ⟨hp, hw, ns, rfl, h1, h2, ok, q⟩ := h
  exact ⟨_, pe_fn D2 hj2 hr (by rfl) pass0 (pa_cons (pe_lst (pa_cons (pe_fn D hj hr (by rfl) pass0 (pa_cons (pe_ix ix_list (pv 0) pe_int (fun _ _ => rfl)) pa_nil)) pa_nil)) pa_nil), ask_two (us := [.int (ofF ns)]) (el_lst (ea_cons (ev_call (ea_cons (ev_first (ev_var rfl) h1) ea_nil) (ev_of_shape h2 ok.1 ok.2)) ea_nil) (show 1 ≤ 100000 by decide)) (fun H2 => .cons (.int _) .nil) (show 1 ≤ 1000 by decide) (one_int _) q⟩
theorem lc_never (G : Gs mg) {j j2 : Nat} (hj : j + 1 ≤ 29) (hj2 : j2 ≤ 29) (DN : Mkd P w K mg base CX0 j "Never" CN ["self", "place"] (sp_Never___init__ K CC CN)) (DS : Mtd P w K mg base CX0 j "shows" CN ["self", "row"] (sp_Never_shows K CC CN)) (D2 : Def P w K mg base CX0 j2 "_law_two" ["_law_found"] (sp_L_two K)) : LamC P w K mg base CX0 30 (lamB 9 0) (spAsk K (fun ns => [.bool (neverB ns 1)]) rowG) := by
  refine lam_of (k := 29) (N := ["_law_some"]) (x := "_law_some") ⟨rfl, rfl, rfl, by decide +kernel, rfl, by decide +kernel, by decide +kernel⟩ spAsk_len (fun _ _ _ _ => rfl) (fun f cd A outer s H vs Q E hr h => ?_)
  obtain ⟨hp, hw, ns, rfl, h1, h2, ok, q⟩ := h
  exact ⟨_, pe_fn D2 hj2 hr (by rfl) pass0 (pa_cons (pe_lst (pa_cons (pe_mth DS (by omega) hr pass0 (pe_mk DN hj hr (by rfl) pass0 (pa_cons pe_int pa_nil)) (pa_cons (pe_ix ix_list (pv 0) pe_int (fun _ _ => rfl)) pa_nil)) pa_nil)) pa_nil), ask_two (us := [.bl (neverB ns 1)]) (el_lst (ea_cons (ev_shows_nM (en_make ev_c) (ev_first (ev_var rfl) h1) h2) ea_nil) (show 1 ≤ 100000 by decide)) (fun H2 => .cons (.bl _) .nil) (show 1 ≤ 1000 by decide) (one_bl _) q⟩
/-- the one that captures: whether the answer told ahead shows the row -/
theorem ask_shows (G : Gs mg) {j j2 : Nat} (hj : j ≤ 29) (hj2 : j2 ≤ 29) (DS : Mtd P w K mg base CX0 j "shows" CC ["self", "row"] (sp_Comes_shows K CC CN)) (D2 : Def P w K mg base CX0 j2 "_law_two" ["_law_found"] (sp_L_two K)) {c hx px : Addr} {sg : List Int} {H : Hp} {f : Addr} (hb : base.IsCell c (some (.ref hx))) (hc : IsComes CC H hx px sg) (hsl : sg.length ≤ 1000) (h : IsLamC H f (lamB 8 1) [("_law_here", c)]) :
    Ask P w K mg base 30 H f (spAsk K (fun ns => [.bool (decide (countsF sg = ns))]) rowG) := by
  refine ask_cap (k := 29) (x := "_law_this") (y := "_law_here") (vc := .ref hx) (uc := .ref hx) ⟨rfl, rfl, rfl, by decide +kernel, rfl, rfl, by decide +kernel, by decide⟩ spAsk_len rfl hb (fun _ _ _ _ => rfl) (fun f cd A outer s H1 v Q E e hr h => ?_) h
  obtain ⟨hp, hw, ns, hv, h1, h2, ok, q⟩ := h
  obtain rfl : v = .ref hp := (List.cons.inj hv).1
  exact ⟨_, pe_fn D2 hj2 hr (by rfl) pass0 (pa_cons (pe_lst (pa_cons (pe_mth DS hj hr pass0 (pv 1) (pa_cons (pe_ix ix_list (pv 0) pe_int (fun _ _ => rfl)) pa_nil)) pa_nil)) pa_nil), ask_two (us := [.bl (decide (countsF sg = ns))]) (el_lst (ea_cons (ev_shows_c (ev_var rfl) (ev_first (ev_var rfl) h1) (hc.extN e) hsl h2) ea_nil) (show 1 ≤ 100000 by decide)) (fun H2 => .cons (.bl _) .nil) (show 1 ≤ 1000 by decide) (one_bl _) q⟩
/-- asked of both rows, at any base that holds the cell -/
def PdD (P : Program) (w : World) (K : PySem.W.Frag) (mg : Str → Option Value) (c hx : Addr) (ns ms : List Int) : Hp → V → Prop := fun H v => ∀ b : Heap, b.IsCell c (some (.ref hx)) → DoorP P w K mg b ns ms H v
theorem mon_door {P : Program} {w : World} {K : PySem.W.Frag} {mg : Str → Option Value} {c hx : Addr} {ns ms : List Int} : Mon (PdD P w K mg c hx ns ms) := fun H H' v e h b hb => by
  obtain ⟨f, Af, Ok, rfl, hA, r⟩ := h b hb
  exact ⟨f, Af, Ok, rfl, hA.extN e, r⟩
theorem s_doors {P : Program} {w : World} {K : PySem.W.Frag} {mg : Str → Option Value} {T : List (Addr × Str)} {σ : L2.St} {H : Hp} {E : XK} {D : Ends} {tu : TS} {ta tb tc : TE} {n : Nat} {c hx : Addr} {ns ms : List Int} (t : LamX.Tabs T H) (h8 : σ[8]? = some (some (.ref hx))) (ha : EvXL T (PdD P w K mg c hx ns ms) ta n σ H) (hb : ∀ H1, LamX.ExtN H H1 → EvR K tb σ H1 ns) (hc : ∀ H1, LamX.ExtN H H1 → EvR K tc σ H1 ms) (hn : n ≤ 1000) (hl : ns.length ≤ 20) (hm : ms.length ≤ 20)
    (k : ∀ H1, LamX.ExtN H H1 → LamX.Tabs T H1 → D.nx σ H1) : tIfS (tNot (tB (tCallC (fun b => sp_L_doors_right P w K mg b) E c 8 (tCons ta (tCons tb (tCons tc tNil)))))) tu tNext D σ H :=
  ha H (LamX.ExtN.refl _) t _ fun pa H1 e1 t1 h1 => hb H1 e1 H1 (Ex.refl _) _ fun pl r H2 e2 s1 s2 => hc H2 (e1.trans (.of e2)) H2 (Ex.refl _) _ fun po o H3 e3 s3 s4 => ⟨.ref hx, h8, fun b u ru hcell => by
    obtain rfl : u = .ref hx := ru
    obtain ⟨fs, g1, g2, g3⟩ := h1.extN mon_door (.of (e2.trans e3))
    exact ⟨pa, pl, r, po, o, ns, ms, fs, rfl, g1, by omega, fun v hv => g3 v hv b hcell, ex_l e3 s1, ex_l e3 s2, s3, s4, hl, hm, fun H4 e4 => ⟨true, rfl, iteF (k H4 (e1.trans (.of (e2.trans (e3.trans e4)))) (t1.ext (e2.trans (e3.trans e4))))⟩⟩⟩
theorem q_doors {P : Program} {w : World} {K : PySem.W.Frag} {mg : Str → Option Value} {T : List (Addr × Str)} {σ : L2.St} {H : Hp} {E : XK} {D : Ends} {tu tz : TS} {ta tb tc : TE} {n : Nat} {c hx : Addr} {ns ms : List Int} (t : LamX.Tabs T H) (h8 : σ[8]? = some (some (.ref hx))) (ha : EvXL T (PdD P w K mg c hx ns ms) ta n σ H) (hb : ∀ H1, LamX.ExtN H H1 → EvR K tb σ H1 ns) (hc : ∀ H1, LamX.ExtN H H1 → EvR K tc σ H1 ms) (hn : n ≤ 1000) (hl : ns.length ≤ 20) (hm : ms.length ≤ 20)
    (k : ∀ H1, LamX.ExtN H H1 → LamX.Tabs T H1 → tz D σ H1) : tSeq (tIfS (tNot (tB (tCallC (fun b => sp_L_doors_right P w K mg b) E c 8 (tCons ta (tCons tb (tCons tc tNil)))))) tu tNext) tz D σ H := s_doors (D := { D with nx := tz D }) t h8 ha hb hc hn hl hm k
theorem rd_num {K : PySem.W.Frag} {σ : L2.St} {H : Hp} {ta : TA} {c m : Int} {k : Nat} {E : XK} {Q : VK} (h : EvA ta σ H [.int c, .int (k : Int), .int m]) (hk : k ≤ 1000) (hm : 0 < m) (q : ∀ (i : Int) H1, 0 ≤ i → i < m → Ex H H1 → Q (.int i) H1) : tCall (sp_L_number K) [] E ta σ H Q :=
  h H (Ex.refl _) _ fun H1 e1 => ⟨c, k, m, rfl, hk, hm, fun i h0 h1 H2 e2 => q i H2 h0 h1 (e1.trans e2)⟩
def rows8 : List (List Int) := [[0, 1, 0, 0, 1], [0, 0, 1, 0, 1], [0, 1, 2, 0, 0], [0, 1, 0, 2, 1]]
abbrev Sm (p : List Int) : Prop := ∀ x ∈ p, 0 ≤ x ∧ x ≤ 40
theorem rows8_ok : ∀ r ∈ rows8, r.length = 5 ∧ Sm (countsF r) ∧ Sm (patternF r) ∧ Sm [numberF (patternF r)] ∧ Sm [manyF (countsF r)] ∧ Sm (patF (countsF r) 0) ∧ Sm [rankF [] (countsF r)] ∧ Sm (shapeF (countsF r)) ∧ Sm [ofF (shapeF (countsF r))] ∧
    ((shapeF (countsF r)).Pairwise (fun x y => y ≤ x) ∧ ∀ x ∈ shapeF (countsF r), 1 ≤ x) ∧ (shapeF (countsF r)).sum ≤ 20 ∧ (shapeF (countsF r)).length ≤ 20 := by decide +kernel
theorem pick8 {K : PySem.W.Frag} {H : Hp} {vs : List V} (h : DpAll K H vs (dRows rows8)) {i : Int} (h0 : 0 ≤ i) (h4 : i < 4) : ∃ c r, r ∈ rows8 ∧ atI vs i = some (.ref c) ∧ SqL K H c (r.map V.int) := by
  obtain ⟨m, hm⟩ : ∃ m : Nat, i = (m : Int) := ⟨i.toNat, by omega⟩
  subst hm
  have hlt : m < rows8.length := by show m < 4; omega
  obtain ⟨c, h1, h2⟩ := dpA_row h (List.getElem?_eq_getElem hlt)
  exact ⟨c, _, List.getElem_mem hlt, atI_nat h1, h2⟩
theorem sm_row {p : List Int} (h : Sm p) (hl : p.length ≤ 10000) : Shw (.list (p.map .int)) := row_shw h hl
theorem d_law {f c P1 : Addr} {od an : Option Addr} {osl : Array (Option Value)} {oc kV dc pm ct : Value} {TL : List (Addr × Str)} (G : Gs mg) (T : Ts K mg CA CC CN) (lk : K.lookup f = some ⟨oc, od, .func (PySem.W.fnOf "law" "law" (defArgs st_law) (defBody st_law) (defScope st_law) .none kV dc pm an (.ref c) ct), osl⟩) (hcd : PySem.W.codeIn K (.ref c) "law" = true) (TB : LamX.TabB base mg c P1) (hmT : (P1, ("law.<locals>.<lambda>" : Str)) ∈ TL) (huT : ∀ p ∈ TL, p.1 = P1 → p.2 = ("law.<locals>.<lambda>" : Str)) (DA_comes : ∀ b : Heap, Def P w K mg b CX0 4 "comes" ["row"] (sp_comes K CC CN)) (DA_L_number : ∀ b : Heap, Def P w K mg b CX0 2 "_law_number" ["_law_cell", "_law_k", "_law_limit"] (sp_L_number K)) (DA_counts : ∀ b : Heap, Def P w K mg b CX0 3 "counts" ["row"] (sp_counts K)) (DA_L_doors_right : ∀ b : Heap, DefG P w K mg b 32 "_law_doors_right" ["_law_asks", "_law_lists", "_law_others"] (sp_L_doors_right P w K mg b)) (DA_L_cell_at : ∀ b : Heap, Def P w K mg b CX0 1 "_law_cell_at" ["_law_script", "_law_k"] (sp_L_cell_at K)) (DA_L_two : ∀ b : Heap, Def P w K mg b CX0 1 "_law_two" ["_law_found"] (sp_L_two K)) (DA_L_comes : ∀ b : Heap, Def P w K mg b CX0 5 "_law_comes" ["_law_row"] (sp_L_comes K CC CN)) (DA_pattern : ∀ b : Heap, Def P w K mg b CX0 3 "pattern" ["row"] (sp_pattern K)) (DA_shape_of : ∀ b : Heap, Def P w K mg b CX0 4 "shape_of" ["row"] (sp_shape_of K)) (DA_how_many : ∀ b : Heap, Def P w K mg b CX0 3 "how_many" ["row"] (sp_how_many K)) (DA_pattern_by : ∀ b : Heap, Def P w K mg b CX0 4 "pattern_by" ["row", "number"] (sp_pattern_by K)) (DA_number_of : ∀ b : Heap, Def P w K mg b CX0 23 "number_of" ["row"] (sp_number_of K)) (DA_Comes_shows : ∀ b : Heap, Mtd P w K mg b CX0 2 "shows" CC ["self", "row"] (sp_Comes_shows K CC CN)) (DA_Never_shows : ∀ b : Heap, Mtd P w K mg b CX0 2 "shows" CN ["self", "row"] (sp_Never_shows K CC CN)) (DA_of_shape : ∀ b : Heap, Def P w K mg b CX0 3 "of_shape" ["shape"] (sp_of_shape K)) (DA_number_in : ∀ b : Heap, Def P w K mg b CX0 4 "number_in" ["row"] (sp_number_in K)) (DA_Never___init__ : ∀ b : Heap, Mkd P w K mg b CX0 1 "Never" CN ["self", "place"] (sp_Never___init__ K CC CN)) : FnG P w K mg base 33 f (PySem.W.fnOf "law" "law" (defArgs st_law) (defBody st_law) (defScope st_law) .none kV dc pm an (.ref c) ct) ["_law_script"] (sp_law K TL) := by
  refine fnGC lk hcd (k := 32) sc_law (fun vs H Q E h => ?_) (fun A outer s H vs Q E hr gd h => ?_)
  · obtain ⟨a, ns, rfl, _⟩ := h
    rfl
  · obtain ⟨a, ns, rfl, hS, hl, hT, q⟩ := h
    have D_comes := DA_comes base
    have D_L_number := DA_L_number base
    have D_counts := DA_counts base
    have D_L_doors_right := DA_L_doors_right base
    have D_L_cell_at := DA_L_cell_at base
    have D_L_two := DA_L_two base
    have D_L_comes := DA_L_comes base
    have D_pattern := DA_pattern base
    have D_shape_of := DA_shape_of base
    have D_how_many := DA_how_many base
    have D_pattern_by := DA_pattern_by base
    have D_number_of := DA_number_of base
    have D_Comes_shows := DA_Comes_shows base
    have D_Never_shows := DA_Never_shows base
    have D_of_shape := DA_of_shape base
    have D_number_in := DA_number_in base
    have D_Never___init__ := DA_Never___init__ base

    refine ⟨_, (pss_cons (ps_set (i := 1) sc_law.nd rfl (.inl rfl) (pe_lst (pa_cons (pe_lst (pa_cons pe_int (pa_cons pe_int (pa_cons pe_int (pa_cons pe_int (pa_cons pe_int pa_nil)))))) (pa_cons (pe_lst (pa_cons pe_int (pa_cons pe_int (pa_cons pe_int (pa_cons pe_int (pa_cons pe_int pa_nil)))))) (pa_cons (pe_lst (pa_cons pe_int (pa_cons pe_int (pa_cons pe_int (pa_cons pe_int (pa_cons pe_int pa_nil)))))) (pa_cons (pe_lst (pa_cons pe_int (pa_cons pe_int (pa_cons pe_int (pa_cons pe_int (pa_cons pe_int pa_nil)))))) pa_nil))))))
      (pss_cons (ps_for PassesOwn.never rfl (pi_range1 (by rfl) G.n_range (pa_cons pe_int pa_nil)) (pg_name (i := 2) sc_law.nd rfl (.inl rfl))
      (pss_cons (ps_set (i := 3) sc_law.nd rfl (.inl rfl) (pe_ix ix_list (pv 1) (pe_fn D_L_number (by decide) hr (by rfl) pass0 (pa_cons (pe_fn D_L_cell_at (by decide) hr (by rfl) pass0 (pa_cons (pv 0) (pa_cons (pv 2) pa_nil))) (pa_cons (pe_op op_add (pv 2) pe_int) (pa_cons pe_int pa_nil)))) (fun _ _ => rfl)))
      (pss_cons (ps_set (i := 4) sc_law.nd rfl (.inl rfl) (pe_ix ix_list (pv 1) (pe_op op_add pe_int (pe_fn D_L_number (by decide) hr (by rfl) pass0 (pa_cons (pe_fn D_L_cell_at (by decide) hr (by rfl) pass0 (pa_cons (pv 0) (pa_cons (pv 2) pa_nil))) (pa_cons (pe_op op_add (pv 2) pe_int) (pa_cons pe_int pa_nil))))) (fun _ _ => rfl)))
      (pss_cons (ps_par (i := 5) (j := 6) (by rfl) sc_law.nd rfl rfl (by decide) rfl rfl (pa_cons (pe_fn D_counts (by decide) hr (by rfl) pass0 (pa_cons (pv 3) pa_nil)) (pa_cons (pe_fn D_counts (by decide) hr (by rfl) pass0 (pa_cons (pv 4) pa_nil)) pa_nil)) (by rfl))
      (pss_cons (ps_set (i := 8) sc_law.nd rfl (.inr rfl) (pe_fn D_comes (by decide) hr (by rfl) pass0 (pa_cons (pv 5) pa_nil)))
      (pss_cons (ps_set (i := 7) sc_law.nd rfl (.inl rfl) (pe_lst (pa_cons (pe_lam TB rfl hmT huT rfl rfl (by decide +kernel)) (pa_cons (pe_lam TB rfl hmT huT rfl rfl (by decide +kernel)) pa_nil))))
      (pss_cons (ps_if (pt_not (pt_val (pe_fnC (i := 8) (y := "_law_here") (c := s.heap.objs.size + 1) DA_L_doors_right (by decide) hr gd (by rfl) pass0 rfl rfl rfl rfl (pa_cons (pe_op op_cat (pv 7) (pe_lst (pa_cons (pe_lam TB rfl hmT huT rfl rfl (by decide +kernel)) pa_nil))) (pa_cons (pe_lst (pa_cons (pv 3) pa_nil)) (pa_cons (pe_lst (pa_cons (pv 4) pa_nil)) pa_nil))))))
      (pss_one (ps_ret pe_bl))
      pss_nil)
      (pss_cons (ps_set (i := 7) sc_law.nd rfl (.inl rfl) (pe_lst (pa_cons (pe_lam TB rfl hmT huT rfl rfl (by decide +kernel)) (pa_cons (pe_lam TB rfl hmT huT rfl rfl (by decide +kernel)) pa_nil))))
      (pss_cons (ps_set (i := 7) sc_law.nd rfl (.inl rfl) (pe_op op_cat (pv 7) (pe_lst (pa_cons (pe_lam TB rfl hmT huT rfl rfl (by decide +kernel)) (pa_cons (pe_lam TB rfl hmT huT rfl rfl (by decide +kernel)) pa_nil)))))
      (pss_cons (ps_set (i := 7) sc_law.nd rfl (.inl rfl) (pe_op op_cat (pv 7) (pe_lst (pa_cons (pe_lam TB rfl hmT huT rfl rfl (by decide +kernel)) (pa_cons (pe_lamC1 (y := "_law_here") (cc := s.heap.objs.size + 1) TB rfl hmT huT rfl rfl rfl (by decide +kernel)) pa_nil)))))
      (pss_cons (ps_set (i := 7) sc_law.nd rfl (.inl rfl) (pe_op op_cat (pv 7) (pe_lst (pa_cons (pe_lam TB rfl hmT huT rfl rfl (by decide +kernel)) pa_nil))))
      (pss_cons (ps_if (pt_not (pt_val (pe_fnC (i := 8) (y := "_law_here") (c := s.heap.objs.size + 1) DA_L_doors_right (by decide) hr gd (by rfl) pass0 rfl rfl rfl rfl (pa_cons (pv 7) (pa_cons (pe_lst (pa_cons (pv 5) pa_nil)) (pa_cons (pe_lst (pa_cons (pv 6) pa_nil)) pa_nil))))))
      (pss_one (ps_ret pe_bl))
      pss_nil)
      (pss_one (ps_if (pt_not (pt_val (pe_fnC (i := 8) (y := "_law_here") (c := s.heap.objs.size + 1) DA_L_doors_right (by decide) hr gd (by rfl) pass0 rfl rfl rfl rfl (pa_cons (pe_lst (pa_cons (pe_lam TB rfl hmT huT rfl rfl (by decide +kernel)) pa_nil)) (pa_cons (pe_lst (pa_cons (pe_fn D_shape_of (by decide) hr (by rfl) pass0 (pa_cons (pv 5) pa_nil)) pa_nil)) (pa_cons (pe_lst (pa_cons (pe_fn D_shape_of (by decide) hr (by rfl) pass0 (pa_cons (pv 6) pa_nil)) pa_nil)) pa_nil))))))
      (pss_one (ps_ret pe_bl))
      pss_nil))))))))))))))
      (pss_one (ps_ret pe_bl)))), ?_⟩
    have z5 : ∀ (σ0 : L2.St) (H0 : Hp) (a b c d e : Int), EvL (tLst (tCons (tC (.int a)) (tCons (tC (.int b)) (tCons (tC (.int c)) (tCons (tC (.int d)) (tCons (tC (.int e)) tNil)))))) σ0 H0 (([a, b, c, d, e] : List Int).map V.int) := fun _ _ _ _ _ _ _ => el_lst (ea_cons ev_c (ea_cons ev_c (ea_cons ev_c (ea_cons ev_c (ea_cons ev_c ea_nil))))) (show 5 ≤ 100000 by decide)
    refine q_asgD (K := K) (ds := dRows rows8) (edn_lst (eda_cons (ed_L (z5 _ _ 0 1 0 0 1)) (eda_cons (ed_L (z5 _ _ 0 0 1 0 1)) (eda_cons (ed_L (z5 _ _ 0 1 2 0 0)) (eda_cons (ed_L (z5 _ _ 0 1 0 2 1)) eda_nil)))) (show 4 ≤ 100000 by decide)) fun ps vs B nps eB hps hds => ?_
    have hSB := ex_l eB hS
    refine q_forR1 (n := 2) (ea_cons ev_c ea_nil) ⟨by decide, by decide⟩ (fun k σ' H' => ∃ y2 y3 y4 y5 y6 y7 y8, σ' = [some (.ref a), some (.ref ps), y2, y3, y4, y5, y6, y7, y8] ∧ LamX.ExtN B H' ∧ LamX.Tabs TL H') (fun H1 e1 => ⟨_, _, _, _, _, _, _, rfl, .of e1, hT.ext (eB.trans e1)⟩) (fun k σ' H' hk hP => ?_) (fun σ' H' hP => ?_)
    · obtain ⟨y2, y3, y4, y5, y6, y7, y8, rfl, eN, hT0⟩ := hP
      have hps0 : H' ps = some (.lst vs) := eN _ _ hps fun _ z => nomatch z
      have hds0 := dpA_extN eN hds
      have hS0 := ln_l eN hSB
      show tSeq _ _ _ [some (V.ref a), some (V.ref ps), some (V.int (k : Int)), y3, y4, y5, y6, y7, y8] H'
      refine q_asgR ⟨_, rfl, rd_num (k := k + 1) (ea_cons (ev_call (ea_cons (ev_var rfl) (ea_cons (ev_var rfl) ea_nil)) (ev_cell_at hS0)) (ea_cons (ev_is (w := .int ((k + 1 : Nat) : Int)) (ev_op (ev_var rfl) ev_c rv_I0) (by congr 1)) (ea_cons ev_c ea_nil))) (by omega) (by decide) fun i1 H1 hi1 hi2 e1 => ?_⟩
      obtain ⟨c1, r1, hr1, ha1, hc1⟩ := pick8 (dpA_mono e1 hds0) hi1 (by omega)
      refine ⟨ps, vs, i1, .ref c1, rfl, rfl, sq_of (e1 _ _ hps0), ha1, ?_⟩
      show tSeq _ _ _ [some (V.ref a), some (V.ref ps), some (V.int (k : Int)), some (V.ref c1), y4, y5, y6, y7, y8] H1
      refine q_asgR ⟨_, rfl, rd_num (k := k + 2) (ea_cons (ev_call (ea_cons (ev_var rfl) (ea_cons (ev_var rfl) ea_nil)) (ev_cell_at (ex_l e1 hS0))) (ea_cons (ev_is (w := .int ((k + 2 : Nat) : Int)) (ev_op (ev_var rfl) ev_c rv_I0) (by congr 1)) (ea_cons ev_c ea_nil))) (by omega) (by decide) fun i2 H2 hi3 hi4 e2 => ⟨2, i2, rfl, rfl, ?_⟩⟩
      obtain ⟨c2, r2, hr2, ha2, hc2⟩ := pick8 (dpA_mono (e1.trans e2) hds0) (i := 2 + i2) (by omega) (by omega)
      refine ⟨ps, vs, 2 + i2, .ref c2, rfl, rfl, sq_of ((e1.trans e2) _ _ hps0), ha2, ?_⟩
      show tSeq _ _ _ [some (V.ref a), some (V.ref ps), some (V.int (k : Int)), some (V.ref c1), some (V.ref c2), y5, y6, y7, y8] H2
      obtain ⟨m1, m2, m3, m4, m5, m6, m7, m8, m9, m10, m11, m12⟩ := rows8_ok r1 hr1
      obtain ⟨n1, n2, n3, n4, n5, n6, n7, n8, n9, n10, n11, n12⟩ := rows8_ok r2 hr2
      have l1 : r1.length ≤ 20 := by omega
      have l2 : r2.length ≤ 20 := by omega
      have lc1 : (countsF r1).length ≤ 20 := by rw [countsF_len]; exact l1
      have lc2 : (countsF r2).length ≤ 20 := by rw [countsF_len]; exact l2
      have g1 : Good (countsF r1) := good_counts r1
      have g2 : Good (countsF r2) := good_counts r2
      have hc1' := ex_l e2 hc1
      refine q_parLL (el_call (ea_cons (ev_var rfl) ea_nil) (el_counts hc1' l1)) (el_call (ea_cons (ev_var rfl) ea_nil) (el_counts hc2 l2)) fun pm py H3 npm npy e3 hpm hpy => ?_
      show tSeq _ _ _ [some (V.ref a), some (V.ref ps), some (V.int (k : Int)), some (V.ref c1), some (V.ref c2), some (V.ref pm), some (V.ref py), y7, y8] H3
      refine q_asgC (ec_comes (ev_var rfl) (sq_of hpm) lc1 g1) fun hx px H4 nhx npx e4 hcm => ?_
      have hPl : (patF (countsF r1) 0).length ≤ 1000 := by
        have h3 := congrArg List.length (patF_ok g1 (by decide) (manyF_pos g1)).2
        rw [countsF_len] at h3
        omega
      show tSeq _ _ _ [some (V.ref a), some (V.ref ps), some (V.int (k : Int)), some (V.ref c1), some (V.ref c2), some (V.ref pm), some (V.ref py), y7, some (V.ref hx)] H4
      have hT4 := hT0.ext (e1.trans (e2.trans (e3.trans e4)))
      have k1 := ex_l (e3.trans e4) hc1'
      have k2 := ex_l (e3.trans e4) hc2
      have k3 := e4 _ _ hpm
      have k4 := e4 _ _ hpy
      have eN4 : LamX.ExtN B H4 := eN.trans (.of (e1.trans (e2.trans (e3.trans e4))))
      clear hc1' hc1 hc2 hpm hpy hps0 hds0 hS0
      refine q_asgX (T := TL) (Pd := PdD P w K mg (s.heap.objs.size + 1) hx r1 r2) (n := 2) (evxl_lst mon_door (evxa_cons mon_door (evx_lam fun H9 f9 hf9 b hb => ⟨f9, _, _, rfl, ask_lam hf9 (lc_counts G (by decide) (by decide) (DA_counts b) (DA_L_two b)), l1, l2, sm_row m2 (by omega), sm_row n2 (by omega)⟩) (evxa_cons mon_door (evx_lam fun H9 f9 hf9 b hb => ⟨f9, _, _, rfl, ask_lam hf9 (lc_pattern G (by decide) (by decide) (DA_pattern b) (DA_L_two b)), l1, l2, sm_row m3 (by rw [patternF_len]; omega), sm_row n3 (by rw [patternF_len]; omega)⟩) evxa_nil)) (by decide)) hT4 fun pa H5 e5 hT5 hA5 => ?_
      show tSeq _ _ _ [some (V.ref a), some (V.ref ps), some (V.int (k : Int)), some (V.ref c1), some (V.ref c2), some (V.ref pm), some (V.ref py), some (V.ref pa), some (V.ref hx)] H5
      refine q_doors (n := 3) (c := (s.heap.objs.size + 1)) (hx := hx) (ns := r1) (ms := r2) hT5 rfl (evxl_cat (n := 2) (m := 1) mon_door (evxl_var mon_door rfl hA5) (evxl_lst mon_door (evxa_cons mon_door (evx_lam fun H9 f9 hf9 b hb => ⟨f9, _, _, rfl, ask_lam hf9 (lc_number_in G (by decide) (by decide) (DA_number_in b) (DA_L_two b)), l1, l2, sm_row m4 (show 1 ≤ 10000 by decide), sm_row n4 (show 1 ≤ 10000 by decide)⟩) evxa_nil) (by decide)) (by decide)) (fun H9 e9 => er_lst (ev_var rfl) (ln_l (e5.trans e9) k1)) (fun H9 e9 => er_lst (ev_var rfl) (ln_l (e5.trans e9) k2)) (by decide) l1 l2 fun H6 e6 hT6 => ?_
      refine q_asgX (T := TL) (Pd := PdD P w K mg (s.heap.objs.size + 1) hx (countsF r1) (countsF r2)) (n := 2) (evxl_lst mon_door (evxa_cons mon_door (evx_lam fun H9 f9 hf9 b hb => ⟨f9, _, _, rfl, ask_lam hf9 (lc_comes (j2 := 0) G (by decide) (by decide) (DA_L_comes b)), ⟨lc1, g1⟩, ⟨lc2, g2⟩, shw_b2, shw_b2⟩) (evxa_cons mon_door (evx_lam fun H9 f9 hf9 b hb => ⟨f9, _, _, rfl, ask_lam hf9 (lc_how_many G (by decide) (by decide) (DA_how_many b) (DA_L_two b)), ⟨lc1, g1⟩, ⟨lc2, g2⟩, sm_row m5 (show 1 ≤ 10000 by decide), sm_row n5 (show 1 ≤ 10000 by decide)⟩) evxa_nil)) (by decide)) hT6 fun pb H7 e7 hT7 hA7 => ?_
      show tSeq _ _ _ [some (V.ref a), some (V.ref ps), some (V.int (k : Int)), some (V.ref c1), some (V.ref c2), some (V.ref pm), some (V.ref py), some (V.ref pb), some (V.ref hx)] H7
      refine q_asgX (T := TL) (Pd := PdD P w K mg (s.heap.objs.size + 1) hx (countsF r1) (countsF r2)) (n := 4) (evxl_cat (n := 2) (m := 2) mon_door (evxl_var mon_door rfl hA7) (evxl_lst mon_door (evxa_cons mon_door (evx_lam fun H9 f9 hf9 b hb => ⟨f9, _, _, rfl, ask_lam hf9 (lc_pattern_by G (by decide) (by decide) (DA_pattern_by b) (DA_L_two b)), ⟨lc1, g1⟩, ⟨lc2, g2⟩, sm_row m6 (by have h3 := congrArg List.length (patF_ok g1 (by decide) (manyF_pos g1)).2; rw [countsF_len] at h3; omega), sm_row n6 (by have h3 := congrArg List.length (patF_ok g2 (by decide) (manyF_pos g2)).2; rw [countsF_len] at h3; omega)⟩) (evxa_cons mon_door (evx_lam fun H9 f9 hf9 b hb => ⟨f9, _, _, rfl, ask_lam hf9 (lc_number_of G (by decide) (by decide) (DA_number_of b) (DA_L_two b)), ⟨lc1, g1⟩, ⟨lc2, g2⟩, sm_row m7 (show 1 ≤ 10000 by decide), sm_row n7 (show 1 ≤ 10000 by decide)⟩) evxa_nil)) (by decide)) (by decide)) hT7 fun pc H8 e8 hT8 hA8 => ?_
      show tSeq _ _ _ [some (V.ref a), some (V.ref ps), some (V.int (k : Int)), some (V.ref c1), some (V.ref c2), some (V.ref pm), some (V.ref py), some (V.ref pc), some (V.ref hx)] H8
      have e48 : LamX.ExtN H4 H8 := e5.trans (e6.trans (e7.trans e8))
      refine q_asgX (T := TL) (Pd := PdD P w K mg (s.heap.objs.size + 1) hx (countsF r1) (countsF r2)) (n := 6) (evxl_cat (n := 4) (m := 2) mon_door (evxl_var mon_door rfl hA8) (evxl_lst mon_door (evxa_cons mon_door (evx_lam fun H9 f9 hf9 b hb => ⟨f9, _, _, rfl, ask_lam hf9 (lc_shape_of G (by decide) (by decide) (DA_shape_of b) (DA_L_two b)), ⟨lc1, g1⟩, ⟨lc2, g2⟩, sm_row m8 (by omega), sm_row n8 (by omega)⟩) (evxa_cons mon_door (evx_lamC fun H9 f9 e9 hf9 b hb => ⟨f9, _, _, rfl, ask_shows G (by decide) (by decide) (DA_Comes_shows b) (DA_L_two b) hb (hcm.extN (e48.trans e9)) hPl hf9, ⟨lc1, g1⟩, ⟨lc2, g2⟩, shw_b1 _, shw_b1 _⟩) evxa_nil)) (by decide)) (by decide)) hT8 fun pd H10 e10 hT10 hA10 => ?_
      show tSeq _ _ _ [some (V.ref a), some (V.ref ps), some (V.int (k : Int)), some (V.ref c1), some (V.ref c2), some (V.ref pm), some (V.ref py), some (V.ref pd), some (V.ref hx)] H10
      refine q_asgX (T := TL) (Pd := PdD P w K mg (s.heap.objs.size + 1) hx (countsF r1) (countsF r2)) (n := 7) (evxl_cat (n := 6) (m := 1) mon_door (evxl_var mon_door rfl hA10) (evxl_lst mon_door (evxa_cons mon_door (evx_lam fun H9 f9 hf9 b hb => ⟨f9, _, _, rfl, ask_lam hf9 (lc_never G (j := 2) (by decide) (by decide) (mkd_mono (DA_Never___init__ b) (by decide)) (DA_Never_shows b) (DA_L_two b)), ⟨lc1, g1⟩, ⟨lc2, g2⟩, shw_b1 _, shw_b1 _⟩) evxa_nil) (by decide)) (by decide)) hT10 fun pe H11 e11 hT11 hA11 => ?_
      show tSeq _ _ _ [some (V.ref a), some (V.ref ps), some (V.int (k : Int)), some (V.ref c1), some (V.ref c2), some (V.ref pm), some (V.ref py), some (V.ref pe), some (V.ref hx)] H11
      have e411 : LamX.ExtN H4 H11 := e48.trans (e10.trans e11)
      refine q_doors (n := 7) (c := (s.heap.objs.size + 1)) (hx := hx) (ns := countsF r1) (ms := countsF r2) hT11 rfl (evxl_var mon_door rfl hA11) (fun H9 e9 => er_lst (ev_var rfl) (ln_l (e411.trans e9) (sq_of k3))) (fun H9 e9 => er_lst (ev_var rfl) (ln_l (e411.trans e9) (sq_of k4))) (by decide) lc1 lc2 fun H12 e12 hT12 => ?_
      have e412 := e411.trans e12
      exact s_doors (n := 1) (c := (s.heap.objs.size + 1)) (hx := hx) (ns := shapeF (countsF r1)) (ms := shapeF (countsF r2)) hT12 rfl (evxl_lst mon_door (evxa_cons mon_door (evx_lam fun H9 f9 hf9 b hb => ⟨f9, _, _, rfl, ask_lam hf9 (lc_of_shape G (by decide) (by decide) (DA_of_shape b) (DA_L_two b)), ⟨m10, m11⟩, ⟨n10, n11⟩, sm_row m9 (show 1 ≤ 10000 by decide), sm_row n9 (show 1 ≤ 10000 by decide)⟩) evxa_nil) (by decide)) (fun H9 e9 => er_lstL (el_call (ea_cons (ev_var rfl) ea_nil) (el_shape_of (ln_l (e412.trans e9) (sq_of k3)) lc1 g1))) (fun H9 e9 => er_lstL (el_call (ea_cons (ev_var rfl) ea_nil) (el_shape_of (ln_l (e412.trans e9) (sq_of k4)) lc2 g2))) (by decide) m12 n12 fun H13 e13 hT13 => ⟨_, _, _, _, _, _, _, rfl, eN4.trans (e412.trans e13), hT13⟩
    obtain ⟨y2, y3, y4, y5, y6, y7, y8, rfl, eN, hT0⟩ := hP
    exact s_ret (v := .bl true) ev_c fun H1 e1 => q H1
end
end Oa
namespace Oa
open PySem PySem.Spec PyProof.Rows L2 Evl
theorem all_mk {l : PySem.W.OpenLaw} {w : World} {K : PySem.W.Frag} {h : Heap} {mg : Str → Option Value} {fa : Addr} {CA CC CN : Addr} {f0 : Addr} {od0 an0 : Option Addr} {sl0 : Array (Option Value)} {oc0 kV0 dc0 pm0 cd0 ct0 : Value} {f1 : Addr} {od1 an1 : Option Addr} {sl1 : Array (Option Value)} {oc1 kV1 dc1 pm1 cd1 ct1 : Value} {f2 : Addr} {od2 an2 : Option Addr} {sl2 : Array (Option Value)} {oc2 kV2 dc2 pm2 cd2 ct2 : Value} {f3 : Addr} {od3 an3 : Option Addr} {sl3 : Array (Option Value)} {oc3 kV3 dc3 pm3 cd3 ct3 : Value} {f4 : Addr} {od4 an4 : Option Addr} {sl4 : Array (Option Value)} {oc4 kV4 dc4 pm4 cd4 ct4 : Value} {f5 : Addr} {od5 an5 : Option Addr} {sl5 : Array (Option Value)} {oc5 kV5 dc5 pm5 cd5 ct5 : Value} {f6 : Addr} {od6 an6 : Option Addr} {sl6 : Array (Option Value)} {oc6 kV6 dc6 pm6 cd6 ct6 : Value} {f7 : Addr} {od7 an7 : Option Addr} {sl7 : Array (Option Value)} {oc7 kV7 dc7 pm7 cd7 ct7 : Value} {f8 : Addr} {od8 an8 : Option Addr} {sl8 : Array (Option Value)} {oc8 kV8 dc8 pm8 cd8 ct8 : Value} {f9 : Addr} {od9 an9 : Option Addr} {sl9 : Array (Option Value)} {oc9 kV9 dc9 pm9 cd9 ct9 : Value} {f10 : Addr} {od10 an10 : Option Addr} {sl10 : Array (Option Value)} {oc10 kV10 dc10 pm10 cd10 ct10 : Value} {f11 : Addr} {od11 an11 : Option Addr} {sl11 : Array (Option Value)} {oc11 kV11 dc11 pm11 cd11 ct11 : Value} {f12 : Addr} {od12 an12 : Option Addr} {sl12 : Array (Option Value)} {oc12 kV12 dc12 pm12 cd12 ct12 : Value} {f13 : Addr} {od13 an13 : Option Addr} {sl13 : Array (Option Value)} {oc13 kV13 dc13 pm13 cd13 ct13 : Value} {f14 : Addr} {od14 an14 : Option Addr} {sl14 : Array (Option Value)} {oc14 kV14 dc14 pm14 cd14 ct14 : Value} {f15 : Addr} {od15 an15 : Option Addr} {sl15 : Array (Option Value)} {oc15 kV15 dc15 pm15 cd15 ct15 : Value} {f16 : Addr} {od16 an16 : Option Addr} {sl16 : Array (Option Value)} {oc16 kV16 dc16 pm16 cd16 ct16 : Value} {f17 : Addr} {od17 an17 : Option Addr} {sl17 : Array (Option Value)} {oc17 kV17 dc17 pm17 cd17 ct17 : Value} {f18 : Addr} {od18 an18 : Option Addr} {sl18 : Array (Option Value)} {oc18 kV18 dc18 pm18 cd18 ct18 : Value} {f19 : Addr} {od19 an19 : Option Addr} {sl19 : Array (Option Value)} {oc19 kV19 dc19 pm19 cd19 ct19 : Value} {f20 : Addr} {od20 an20 : Option Addr} {sl20 : Array (Option Value)} {oc20 kV20 dc20 pm20 cd20 ct20 : Value} {f21 : Addr} {od21 an21 : Option Addr} {sl21 : Array (Option Value)} {oc21 kV21 dc21 pm21 cd21 ct21 : Value} {f22 : Addr} {od22 an22 : Option Addr} {sl22 : Array (Option Value)} {oc22 kV22 dc22 pm22 cd22 ct22 : Value} {f23 : Addr} {od23 an23 : Option Addr} {sl23 : Array (Option Value)} {oc23 kV23 dc23 pm23 cd23 ct23 : Value} {f24 : Addr} {od24 an24 : Option Addr} {sl24 : Array (Option Value)} {oc24 kV24 dc24 pm24 cd24 ct24 : Value} {f25 : Addr} {od25 an25 : Option Addr} {sl25 : Array (Option Value)} {oc25 kV25 dc25 pm25 cd25 ct25 : Value} {f26 : Addr} {od26 an26 : Option Addr} {sl26 : Array (Option Value)} {oc26 kV26 dc26 pm26 cd26 ct26 : Value} {f27 : Addr} {od27 an27 : Option Addr} {sl27 : Array (Option Value)} {oc27 kV27 dc27 pm27 cd27 ct27 : Value} {f28 : Addr} {od28 an28 : Option Addr} {sl28 : Array (Option Value)} {oc28 kV28 dc28 pm28 cd28 ct28 : Value} {f29 : Addr} {od29 an29 : Option Addr} {sl29 : Array (Option Value)} {oc29 kV29 dc29 pm29 cd29 ct29 : Value} {f30 : Addr} {od30 an30 : Option Addr} {sl30 : Array (Option Value)} {oc30 kV30 dc30 pm30 cd30 ct30 : Value} {f31 : Addr} {od31 an31 : Option Addr} {sl31 : Array (Option Value)} {oc31 kV31 dc31 pm31 cd31 ct31 : Value} {f32 : Addr} {od32 an32 : Option Addr} {sl32 : Array (Option Value)} {oc32 kV32 dc32 pm32 cd32 ct32 : Value} {f33 : Addr} {od33 an33 : Option Addr} {sl33 : Array (Option Value)} {oc33 kV33 dc33 pm33 cd33 ct33 : Value} {f34 cc34 P34 : Addr} {od34 an34 td34 : Option Addr} {sl34 tl34 : Array (Option Value)} {oc34 kV34 dc34 pm34 ct34 te34 : Value} {tv34 : Array Value} {tk0 : Tok} (X : K.In h) (N : h.Ns mainGlobals mg) (hfa : mg "law" = some (.ref fa)) (own : ∀ x ∈ (["law"] : List Str), OwnT K mg h x)
    (gCA : PySem.W.nsIn K mainGlobals "Answer" = some (some (.ref CA)))
    (gCC : PySem.W.nsIn K mainGlobals "Comes" = some (some (.ref CC)))
    (gCN : PySem.W.nsIn K mainGlobals "Never" = some (some (.ref CN)))
    (pgCC : PySem.W.plainGet K CC Str.empty = true)
    (hdCC : PySem.W.hasDictIn K CC = true)
    (poCC : PySem.W.plainOver K CC = true)
    (saCC : PySem.W.findIn K (.ref CC) "__setattr__" = some (some (.builtin "object.__setattr__")))
    (haCC : PySem.W.findIn K (.ref CC) "__class__" = some (some (.builtin "object.__class__")))
    (hmCC : PySem.W.mroIn K CC (.type "object") = some true)
    (nfCC : PySem.W.findIn K (.ref CC) "signs" = some none)
    (mkCC : PySem.W.makesIn K CC = true)
    (kcCC : PySem.W.keepIn K (.ref CC) = true)
    (pgCN : PySem.W.plainGet K CN Str.empty = true)
    (hdCN : PySem.W.hasDictIn K CN = true)
    (poCN : PySem.W.plainOver K CN = true)
    (saCN : PySem.W.findIn K (.ref CN) "__setattr__" = some (some (.builtin "object.__setattr__")))
    (haCN : PySem.W.findIn K (.ref CN) "__class__" = some (some (.builtin "object.__class__")))
    (hmCN : PySem.W.mroIn K CN (.type "object") = some true)
    (nfCN : PySem.W.findIn K (.ref CN) "place" = some none)
    (mkCN : PySem.W.makesIn K CN = true)
    (kcCN : PySem.W.keepIn K (.ref CN) = true)
    (hn0 : PySem.W.specialIn K (.builtin "object.__class__") "__get__" = some (some (.builtin "getset_descriptor.__get__")))
    (ht0 : PySem.W.takesIn K (.builtin "object.__class__") = some true)
    (icCA : PySem.W.isClsIn K CA = true)
    (tyCA : PySem.W.typeIn K (.ref CA) = some (.type "type"))
    (icCC : PySem.W.isClsIn K CC = true)
    (tyCC : PySem.W.typeIn K (.ref CC) = some (.type "type"))
    (icCN : PySem.W.isClsIn K CN = true)
    (tyCN : PySem.W.typeIn K (.ref CN) = some (.type "type"))
    (kkCACA : PySem.W.subIn K (.ref CA) (.ref CA) = some true)
    (kkCCCC : PySem.W.subIn K (.ref CC) (.ref CC) = some true)
    (kkCCCN : PySem.W.subIn K (.ref CC) (.ref CN) = some false)
    (kkCCCA : PySem.W.subIn K (.ref CC) (.ref CA) = some true)
    (kkCNCC : PySem.W.subIn K (.ref CN) (.ref CC) = some false)
    (kkCNCN : PySem.W.subIn K (.ref CN) (.ref CN) = some true)
    (kkCNCA : PySem.W.subIn K (.ref CN) (.ref CA) = some true)
    (a0 : PySem.W.nsIn K mainGlobals "is_number" = some (some (.ref f0)))
    (l0 : K.lookup f0 = some ⟨oc0, od0, .func (PySem.W.fnOf "is_number" "is_number" (defArgs st_is_number) (defBody st_is_number) (defScope st_is_number) .none kV0 dc0 pm0 an0 cd0 ct0), sl0⟩)
    (c0 : PySem.W.codeIn K cd0 "is_number" = true) (k0 : PySem.W.keepIn K (.ref f0) = true)
    (a1 : PySem.W.nsIn K mainGlobals "check_row" = some (some (.ref f1)))
    (l1 : K.lookup f1 = some ⟨oc1, od1, .func (PySem.W.fnOf "check_row" "check_row" (defArgs st_check_row) (defBody st_check_row) (defScope st_check_row) .none kV1 dc1 pm1 an1 cd1 ct1), sl1⟩)
    (c1 : PySem.W.codeIn K cd1 "check_row" = true) (k1 : PySem.W.keepIn K (.ref f1) = true)
    (a2 : PySem.W.nsIn K mainGlobals "counts_of" = some (some (.ref f2)))
    (l2 : K.lookup f2 = some ⟨oc2, od2, .func (PySem.W.fnOf "counts_of" "counts_of" (defArgs st_counts_of) (defBody st_counts_of) (defScope st_counts_of) .none kV2 dc2 pm2 an2 cd2 ct2), sl2⟩)
    (c2 : PySem.W.codeIn K cd2 "counts_of" = true) (k2 : PySem.W.keepIn K (.ref f2) = true)
    (a3 : PySem.W.nsIn K mainGlobals "counts" = some (some (.ref f3)))
    (l3 : K.lookup f3 = some ⟨oc3, od3, .func (PySem.W.fnOf "counts" "counts" (defArgs st_counts) (defBody st_counts) (defScope st_counts) .none kV3 dc3 pm3 an3 cd3 ct3), sl3⟩)
    (c3 : PySem.W.codeIn K cd3 "counts" = true) (k3 : PySem.W.keepIn K (.ref f3) = true)
    (a4 : PySem.W.nsIn K mainGlobals "pattern" = some (some (.ref f4)))
    (l4 : K.lookup f4 = some ⟨oc4, od4, .func (PySem.W.fnOf "pattern" "pattern" (defArgs st_pattern) (defBody st_pattern) (defScope st_pattern) .none kV4 dc4 pm4 an4 cd4 ct4), sl4⟩)
    (c4 : PySem.W.codeIn K cd4 "pattern" = true) (k4 : PySem.W.keepIn K (.ref f4) = true)
    (a5 : PySem.W.nsIn K mainGlobals "left_for" = some (some (.ref f5)))
    (l5 : K.lookup f5 = some ⟨oc5, od5, .func (PySem.W.fnOf "left_for" "left_for" (defArgs st_left_for) (defBody st_left_for) (defScope st_left_for) .none kV5 dc5 pm5 an5 cd5 ct5), sl5⟩)
    (c5 : PySem.W.codeIn K cd5 "left_for" = true) (k5 : PySem.W.keepIn K (.ref f5) = true)
    (a6 : PySem.W.nsIn K mainGlobals "first_wrong" = some (some (.ref f6)))
    (l6 : K.lookup f6 = some ⟨oc6, od6, .func (PySem.W.fnOf "first_wrong" "first_wrong" (defArgs st_first_wrong) (defBody st_first_wrong) (defScope st_first_wrong) .none kV6 dc6 pm6 an6 cd6 ct6), sl6⟩)
    (c6 : PySem.W.codeIn K cd6 "first_wrong" = true) (k6 : PySem.W.keepIn K (.ref f6) = true)
    (a7 : PySem.W.findIn K (.ref CC) "__init__" = some (some (.ref f7))) (i7 : PySem.W.isFn K (.ref f7) = true)
    (l7 : K.lookup f7 = some ⟨oc7, od7, .func (PySem.W.fnOf "__init__" "Comes.__init__" (defArgs st_Comes___init__) (defBody st_Comes___init__) (defScope st_Comes___init__) .none kV7 dc7 pm7 an7 cd7 ct7), sl7⟩)
    (c7 : PySem.W.codeIn K cd7 "Comes.__init__" = true) (k7 : PySem.W.keepIn K (.ref f7) = true)
    (a8 : PySem.W.findIn K (.ref CC) "shows" = some (some (.ref f8))) (i8 : PySem.W.isFn K (.ref f8) = true)
    (l8 : K.lookup f8 = some ⟨oc8, od8, .func (PySem.W.fnOf "shows" "Comes.shows" (defArgs st_Comes_shows) (defBody st_Comes_shows) (defScope st_Comes_shows) .none kV8 dc8 pm8 an8 cd8 ct8), sl8⟩)
    (c8 : PySem.W.codeIn K cd8 "Comes.shows" = true) (k8 : PySem.W.keepIn K (.ref f8) = true)
    (a9 : PySem.W.findIn K (.ref CN) "__init__" = some (some (.ref f9))) (i9 : PySem.W.isFn K (.ref f9) = true)
    (l9 : K.lookup f9 = some ⟨oc9, od9, .func (PySem.W.fnOf "__init__" "Never.__init__" (defArgs st_Never___init__) (defBody st_Never___init__) (defScope st_Never___init__) .none kV9 dc9 pm9 an9 cd9 ct9), sl9⟩)
    (c9 : PySem.W.codeIn K cd9 "Never.__init__" = true) (k9 : PySem.W.keepIn K (.ref f9) = true)
    (a10 : PySem.W.findIn K (.ref CN) "shows" = some (some (.ref f10))) (i10 : PySem.W.isFn K (.ref f10) = true)
    (l10 : K.lookup f10 = some ⟨oc10, od10, .func (PySem.W.fnOf "shows" "Never.shows" (defArgs st_Never_shows) (defBody st_Never_shows) (defScope st_Never_shows) .none kV10 dc10 pm10 an10 cd10 ct10), sl10⟩)
    (c10 : PySem.W.codeIn K cd10 "Never.shows" = true) (k10 : PySem.W.keepIn K (.ref f10) = true)
    (a11 : PySem.W.nsIn K mainGlobals "check_counts" = some (some (.ref f11)))
    (l11 : K.lookup f11 = some ⟨oc11, od11, .func (PySem.W.fnOf "check_counts" "check_counts" (defArgs st_check_counts) (defBody st_check_counts) (defScope st_check_counts) .none kV11 dc11 pm11 an11 cd11 ct11), sl11⟩)
    (c11 : PySem.W.codeIn K cd11 "check_counts" = true) (k11 : PySem.W.keepIn K (.ref f11) = true)
    (a12 : PySem.W.nsIn K mainGlobals "many_of" = some (some (.ref f12)))
    (l12 : K.lookup f12 = some ⟨oc12, od12, .func (PySem.W.fnOf "many_of" "many_of" (defArgs st_many_of) (defBody st_many_of) (defScope st_many_of) .none kV12 dc12 pm12 an12 cd12 ct12), sl12⟩)
    (c12 : PySem.W.codeIn K cd12 "many_of" = true) (k12 : PySem.W.keepIn K (.ref f12) = true)
    (a13 : PySem.W.nsIn K mainGlobals "how_many" = some (some (.ref f13)))
    (l13 : K.lookup f13 = some ⟨oc13, od13, .func (PySem.W.fnOf "how_many" "how_many" (defArgs st_how_many) (defBody st_how_many) (defScope st_how_many) .none kV13 dc13 pm13 an13 cd13 ct13), sl13⟩)
    (c13 : PySem.W.codeIn K cd13 "how_many" = true) (k13 : PySem.W.keepIn K (.ref f13) = true)
    (a14 : PySem.W.nsIn K mainGlobals "pattern_of" = some (some (.ref f14)))
    (l14 : K.lookup f14 = some ⟨oc14, od14, .func (PySem.W.fnOf "pattern_of" "pattern_of" (defArgs st_pattern_of) (defBody st_pattern_of) (defScope st_pattern_of) .none kV14 dc14 pm14 an14 cd14 ct14), sl14⟩)
    (c14 : PySem.W.codeIn K cd14 "pattern_of" = true) (k14 : PySem.W.keepIn K (.ref f14) = true)
    (a15 : PySem.W.nsIn K mainGlobals "pattern_by" = some (some (.ref f15)))
    (l15 : K.lookup f15 = some ⟨oc15, od15, .func (PySem.W.fnOf "pattern_by" "pattern_by" (defArgs st_pattern_by) (defBody st_pattern_by) (defScope st_pattern_by) .none kV15 dc15 pm15 an15 cd15 ct15), sl15⟩)
    (c15 : PySem.W.codeIn K cd15 "pattern_by" = true) (k15 : PySem.W.keepIn K (.ref f15) = true)
    (a16 : PySem.W.nsIn K mainGlobals "number_in" = some (some (.ref f16)))
    (l16 : K.lookup f16 = some ⟨oc16, od16, .func (PySem.W.fnOf "number_in" "number_in" (defArgs st_number_in) (defBody st_number_in) (defScope st_number_in) .none kV16 dc16 pm16 an16 cd16 ct16), sl16⟩)
    (c16 : PySem.W.codeIn K cd16 "number_in" = true) (k16 : PySem.W.keepIn K (.ref f16) = true)
    (a17 : PySem.W.nsIn K mainGlobals "comes" = some (some (.ref f17)))
    (l17 : K.lookup f17 = some ⟨oc17, od17, .func (PySem.W.fnOf "comes" "comes" (defArgs st_comes) (defBody st_comes) (defScope st_comes) .none kV17 dc17 pm17 an17 cd17 ct17), sl17⟩)
    (c17 : PySem.W.codeIn K cd17 "comes" = true) (k17 : PySem.W.keepIn K (.ref f17) = true)
    (a18 : PySem.W.nsIn K mainGlobals "wider" = some (some (.ref f18)))
    (l18 : K.lookup f18 = some ⟨oc18, od18, .func (PySem.W.fnOf "wider" "wider" (defArgs st_wider) (defBody st_wider) (defScope st_wider) .none kV18 dc18 pm18 an18 cd18 ct18), sl18⟩)
    (c18 : PySem.W.codeIn K cd18 "wider" = true) (k18 : PySem.W.keepIn K (.ref f18) = true)
    (a19 : PySem.W.nsIn K mainGlobals "ways_on" = some (some (.ref f19)))
    (l19 : K.lookup f19 = some ⟨oc19, od19, .func (PySem.W.fnOf "ways_on" "ways_on" (defArgs st_ways_on) (defBody st_ways_on) (defScope st_ways_on) .none kV19 dc19 pm19 an19 cd19 ct19), sl19⟩)
    (c19 : PySem.W.codeIn K cd19 "ways_on" = true) (k19 : PySem.W.keepIn K (.ref f19) = true)
    (a20 : PySem.W.nsIn K mainGlobals "number_of" = some (some (.ref f20)))
    (l20 : K.lookup f20 = some ⟨oc20, od20, .func (PySem.W.fnOf "number_of" "number_of" (defArgs st_number_of) (defBody st_number_of) (defScope st_number_of) .none kV20 dc20 pm20 an20 cd20 ct20), sl20⟩)
    (c20 : PySem.W.codeIn K cd20 "number_of" = true) (k20 : PySem.W.keepIn K (.ref f20) = true)
    (a21 : PySem.W.nsIn K mainGlobals "shape_of" = some (some (.ref f21)))
    (l21 : K.lookup f21 = some ⟨oc21, od21, .func (PySem.W.fnOf "shape_of" "shape_of" (defArgs st_shape_of) (defBody st_shape_of) (defScope st_shape_of) .none kV21 dc21 pm21 an21 cd21 ct21), sl21⟩)
    (c21 : PySem.W.codeIn K cd21 "shape_of" = true) (k21 : PySem.W.keepIn K (.ref f21) = true)
    (a22 : PySem.W.nsIn K mainGlobals "check_shape" = some (some (.ref f22)))
    (l22 : K.lookup f22 = some ⟨oc22, od22, .func (PySem.W.fnOf "check_shape" "check_shape" (defArgs st_check_shape) (defBody st_check_shape) (defScope st_check_shape) .none kV22 dc22 pm22 an22 cd22 ct22), sl22⟩)
    (c22 : PySem.W.codeIn K cd22 "check_shape" = true) (k22 : PySem.W.keepIn K (.ref f22) = true)
    (a23 : PySem.W.nsIn K mainGlobals "of_shape" = some (some (.ref f23)))
    (l23 : K.lookup f23 = some ⟨oc23, od23, .func (PySem.W.fnOf "of_shape" "of_shape" (defArgs st_of_shape) (defBody st_of_shape) (defScope st_of_shape) .none kV23 dc23 pm23 an23 cd23 ct23), sl23⟩)
    (c23 : PySem.W.codeIn K cd23 "of_shape" = true) (k23 : PySem.W.keepIn K (.ref f23) = true)
    (a24 : PySem.W.nsIn K mainGlobals "_law_cell_at" = some (some (.ref f24)))
    (l24 : K.lookup f24 = some ⟨oc24, od24, .func (PySem.W.fnOf "_law_cell_at" "_law_cell_at" (defArgs st_L_cell_at) (defBody st_L_cell_at) (defScope st_L_cell_at) .none kV24 dc24 pm24 an24 cd24 ct24), sl24⟩)
    (c24 : PySem.W.codeIn K cd24 "_law_cell_at" = true) (k24 : PySem.W.keepIn K (.ref f24) = true)
    (a25 : PySem.W.nsIn K mainGlobals "_law_draw" = some (some (.ref f25)))
    (l25 : K.lookup f25 = some ⟨oc25, od25, .func (PySem.W.fnOf "_law_draw" "_law_draw" (defArgs st_L_draw) (defBody st_L_draw) (defScope st_L_draw) .none kV25 dc25 pm25 an25 cd25 ct25), sl25⟩)
    (c25 : PySem.W.codeIn K cd25 "_law_draw" = true) (k25 : PySem.W.keepIn K (.ref f25) = true)
    (a26 : PySem.W.nsIn K mainGlobals "_law_number" = some (some (.ref f26)))
    (l26 : K.lookup f26 = some ⟨oc26, od26, .func (PySem.W.fnOf "_law_number" "_law_number" (defArgs st_L_number) (defBody st_L_number) (defScope st_L_number) .none kV26 dc26 pm26 an26 cd26 ct26), sl26⟩)
    (c26 : PySem.W.codeIn K cd26 "_law_number" = true) (k26 : PySem.W.keepIn K (.ref f26) = true)
    (a27 : PySem.W.nsIn K mainGlobals "_law_deep" = some (some (.ref f27)))
    (l27 : K.lookup f27 = some ⟨oc27, od27, .func (PySem.W.fnOf "_law_deep" "_law_deep" (defArgs st_L_deep) (defBody st_L_deep) (defScope st_L_deep) .none kV27 dc27 pm27 an27 cd27 ct27), sl27⟩)
    (c27 : PySem.W.codeIn K cd27 "_law_deep" = true) (k27 : PySem.W.keepIn K (.ref f27) = true)
    (a28 : PySem.W.nsIn K mainGlobals "_law_spoilt" = some (some (.ref f28)))
    (l28 : K.lookup f28 = some ⟨oc28, od28, .func (PySem.W.fnOf "_law_spoilt" "_law_spoilt" (defArgs st_L_spoilt) (defBody st_L_spoilt) (defScope st_L_spoilt) .none kV28 dc28 pm28 an28 cd28 ct28), sl28⟩)
    (c28 : PySem.W.codeIn K cd28 "_law_spoilt" = true) (k28 : PySem.W.keepIn K (.ref f28) = true)
    (a29 : PySem.W.nsIn K mainGlobals "_law_put" = some (some (.ref f29)))
    (l29 : K.lookup f29 = some ⟨oc29, od29, .func (PySem.W.fnOf "_law_put" "_law_put" (defArgs st_L_put) (defBody st_L_put) (defScope st_L_put) .none kV29 dc29 pm29 an29 cd29 ct29), sl29⟩)
    (c29 : PySem.W.codeIn K cd29 "_law_put" = true) (k29 : PySem.W.keepIn K (.ref f29) = true)
    (a30 : PySem.W.nsIn K mainGlobals "_law_door_right" = some (some (.ref f30)))
    (l30 : K.lookup f30 = some ⟨oc30, od30, .func (PySem.W.fnOf "_law_door_right" "_law_door_right" (defArgs st_L_door_right) (defBody st_L_door_right) (defScope st_L_door_right) .none kV30 dc30 pm30 an30 cd30 ct30), sl30⟩)
    (c30 : PySem.W.codeIn K cd30 "_law_door_right" = true) (k30 : PySem.W.keepIn K (.ref f30) = true)
    (a31 : PySem.W.nsIn K mainGlobals "_law_two" = some (some (.ref f31)))
    (l31 : K.lookup f31 = some ⟨oc31, od31, .func (PySem.W.fnOf "_law_two" "_law_two" (defArgs st_L_two) (defBody st_L_two) (defScope st_L_two) .none kV31 dc31 pm31 an31 cd31 ct31), sl31⟩)
    (c31 : PySem.W.codeIn K cd31 "_law_two" = true) (k31 : PySem.W.keepIn K (.ref f31) = true)
    (a32 : PySem.W.nsIn K mainGlobals "_law_doors_right" = some (some (.ref f32)))
    (l32 : K.lookup f32 = some ⟨oc32, od32, .func (PySem.W.fnOf "_law_doors_right" "_law_doors_right" (defArgs st_L_doors_right) (defBody st_L_doors_right) (defScope st_L_doors_right) .none kV32 dc32 pm32 an32 cd32 ct32), sl32⟩)
    (c32 : PySem.W.codeIn K cd32 "_law_doors_right" = true) (k32 : PySem.W.keepIn K (.ref f32) = true)
    (a33 : PySem.W.nsIn K mainGlobals "_law_comes" = some (some (.ref f33)))
    (l33 : K.lookup f33 = some ⟨oc33, od33, .func (PySem.W.fnOf "_law_comes" "_law_comes" (defArgs st_L_comes) (defBody st_L_comes) (defScope st_L_comes) .none kV33 dc33 pm33 an33 cd33 ct33), sl33⟩)
    (c33 : PySem.W.codeIn K cd33 "_law_comes" = true) (k33 : PySem.W.keepIn K (.ref f33) = true)
    (a34 : PySem.W.nsIn K mainGlobals "law" = some (some (.ref f34)))
    (l34 : K.lookup f34 = some ⟨oc34, od34, .func (PySem.W.fnOf "law" "law" (defArgs st_law) (defBody st_law) (defScope st_law) .none kV34 dc34 pm34 an34 (.ref cc34) ct34), sl34⟩)
    (c34 : PySem.W.codeIn K (.ref cc34) "law" = true) (k34 : PySem.W.keepIn K (.ref f34) = true)
    (t34 : K.lookup cc34 = some ⟨te34, td34, .fields tv34, tl34⟩) (v34 : tv34[11]? = some (.ref P34)) (n34 : K.lookup P34 = none)
    (z0 : PySem.W.nsIn K mainGlobals "all" = some none)
    (z1 : PySem.W.nsIn K mainGlobals "any" = some none)
    (z2 : PySem.W.nsIn K mainGlobals "bool" = some none)
    (z3 : PySem.W.nsIn K mainGlobals "enumerate" = some none)
    (z4 : PySem.W.nsIn K mainGlobals "int" = some none)
    (z5 : PySem.W.nsIn K mainGlobals "isinstance" = some none)
    (z6 : PySem.W.nsIn K mainGlobals "len" = some none)
    (z7 : PySem.W.nsIn K mainGlobals "list" = some none)
    (z8 : PySem.W.nsIn K mainGlobals "range" = some none)
    (z9 : PySem.W.nsIn K mainGlobals "set" = some none)
    (z10 : PySem.W.nsIn K mainGlobals "str" = some none)
    (z11 : PySem.W.nsIn K mainGlobals "sum" = some none)
    (z12 : PySem.W.nsIn K mainGlobals "tuple" = some none)
    (z13 : PySem.W.nsIn K mainGlobals "zip" = some none)
    (w0 : PySem.W.nsIn K mainGlobals "LONGEST" = some (some (.int 20 tk0))) :
    LawAtG l w K 33 63 "_law_script" mg fa h := by
  have e := hfa.symm.trans (PySem.W.mg_of X N a34)
  cases e
  have G : Gs mg := ⟨PySem.W.mg_none_of X N z0, PySem.W.mg_none_of X N z1, PySem.W.mg_none_of X N z2, PySem.W.mg_none_of X N z3, PySem.W.mg_none_of X N z4, PySem.W.mg_none_of X N z5, PySem.W.mg_none_of X N z6, PySem.W.mg_none_of X N z7, PySem.W.mg_none_of X N z8, PySem.W.mg_none_of X N z9, PySem.W.mg_none_of X N z10, PySem.W.mg_none_of X N z11, PySem.W.mg_none_of X N z12, PySem.W.mg_none_of X N z13, ⟨_, PySem.W.mg_of X N w0⟩⟩
  have T : Ts K mg CA CC CN := ⟨⟨⟨pgCC, hdCC, poCC, saCC⟩, haCC, hn0, ht0, hmCC⟩, ⟨⟨pgCN, hdCN, poCN, saCN⟩, haCN, hn0, ht0, hmCN⟩, nfCC, nfCN, PySem.W.mg_of X N gCA, PySem.W.mg_of X N gCC, PySem.W.mg_of X N gCN, kit_own icCC tyCC kkCCCC kkCCCC, kit_own icCN tyCN kkCCCN kkCNCN, kit_own icCA tyCA kkCCCA kkCACA, kit_own icCC tyCC kkCNCC kkCCCC, kit_own icCN tyCN kkCNCN kkCNCN, kit_own icCA tyCA kkCNCA kkCACA, mkCC, kcCC, mkCN, kcCN⟩
  have o34 := own "law" (by simp) _ _ _ _ _ _ _ _ _ (PySem.W.mg_of X N a34) l34 rfl rfl t34 v34
  have p0 : Pl K mg "is_number" st_is_number ["thing"] := pl_mk X N a0 l0 c0 k0 fun _ _ _ _ _ _ us hl => match us, hl with | [_], _ => rfl
  have p1 : Pl K mg "check_row" st_check_row ["row"] := pl_mk X N a1 l1 c1 k1 fun _ _ _ _ _ _ us hl => match us, hl with | [_], _ => rfl
  have p2 : Pl K mg "counts_of" st_counts_of ["row"] := pl_mk X N a2 l2 c2 k2 fun _ _ _ _ _ _ us hl => match us, hl with | [_], _ => rfl
  have p3 : Pl K mg "counts" st_counts ["row"] := pl_mk X N a3 l3 c3 k3 fun _ _ _ _ _ _ us hl => match us, hl with | [_], _ => rfl
  have p4 : Pl K mg "pattern" st_pattern ["row"] := pl_mk X N a4 l4 c4 k4 fun _ _ _ _ _ _ us hl => match us, hl with | [_], _ => rfl
  have p5 : Pl K mg "left_for" st_left_for ["row", "place"] := pl_mk X N a5 l5 c5 k5 fun _ _ _ _ _ _ us hl => match us, hl with | [_, _], _ => rfl
  have p6 : Pl K mg "first_wrong" st_first_wrong ["row"] := pl_mk X N a6 l6 c6 k6 fun _ _ _ _ _ _ us hl => match us, hl with | [_], _ => rfl
  have p7 : PlM K CC "__init__" "Comes.__init__" st_Comes___init__ ["self", "signs"] := plm_mk a7 i7 l7 c7 k7 fun _ _ _ _ _ _ us hl => match us, hl with | [_, _], _ => rfl
  have p8 : PlM K CC "shows" "Comes.shows" st_Comes_shows ["self", "row"] := plm_mk a8 i8 l8 c8 k8 fun _ _ _ _ _ _ us hl => match us, hl with | [_, _], _ => rfl
  have p9 : PlM K CN "__init__" "Never.__init__" st_Never___init__ ["self", "place"] := plm_mk a9 i9 l9 c9 k9 fun _ _ _ _ _ _ us hl => match us, hl with | [_, _], _ => rfl
  have p10 : PlM K CN "shows" "Never.shows" st_Never_shows ["self", "row"] := plm_mk a10 i10 l10 c10 k10 fun _ _ _ _ _ _ us hl => match us, hl with | [_, _], _ => rfl
  have p11 : Pl K mg "check_counts" st_check_counts ["row"] := pl_mk X N a11 l11 c11 k11 fun _ _ _ _ _ _ us hl => match us, hl with | [_], _ => rfl
  have p12 : Pl K mg "many_of" st_many_of ["row"] := pl_mk X N a12 l12 c12 k12 fun _ _ _ _ _ _ us hl => match us, hl with | [_], _ => rfl
  have p13 : Pl K mg "how_many" st_how_many ["row"] := pl_mk X N a13 l13 c13 k13 fun _ _ _ _ _ _ us hl => match us, hl with | [_], _ => rfl
  have p14 : Pl K mg "pattern_of" st_pattern_of ["row", "number"] := pl_mk X N a14 l14 c14 k14 fun _ _ _ _ _ _ us hl => match us, hl with | [_, _], _ => rfl
  have p15 : Pl K mg "pattern_by" st_pattern_by ["row", "number"] := pl_mk X N a15 l15 c15 k15 fun _ _ _ _ _ _ us hl => match us, hl with | [_, _], _ => rfl
  have p16 : Pl K mg "number_in" st_number_in ["row"] := pl_mk X N a16 l16 c16 k16 fun _ _ _ _ _ _ us hl => match us, hl with | [_], _ => rfl
  have p17 : Pl K mg "comes" st_comes ["row"] := pl_mk X N a17 l17 c17 k17 fun _ _ _ _ _ _ us hl => match us, hl with | [_], _ => rfl
  have p18 : Pl K mg "wider" st_wider ["shape"] := pl_mk X N a18 l18 c18 k18 fun _ _ _ _ _ _ us hl => match us, hl with | [_], _ => rfl
  have p19 : Pl K mg "ways_on" st_ways_on ["shape", "left", "known"] := pl_mk X N a19 l19 c19 k19 fun _ _ _ _ _ _ us hl => match us, hl with | [_, _, _], _ => rfl
  have p20 : Pl K mg "number_of" st_number_of ["row"] := pl_mk X N a20 l20 c20 k20 fun _ _ _ _ _ _ us hl => match us, hl with | [_], _ => rfl
  have p21 : Pl K mg "shape_of" st_shape_of ["row"] := pl_mk X N a21 l21 c21 k21 fun _ _ _ _ _ _ us hl => match us, hl with | [_], _ => rfl
  have p22 : Pl K mg "check_shape" st_check_shape ["shape"] := pl_mk X N a22 l22 c22 k22 fun _ _ _ _ _ _ us hl => match us, hl with | [_], _ => rfl
  have p23 : Pl K mg "of_shape" st_of_shape ["shape"] := pl_mk X N a23 l23 c23 k23 fun _ _ _ _ _ _ us hl => match us, hl with | [_], _ => rfl
  have p24 : Pl K mg "_law_cell_at" st_L_cell_at ["_law_script", "_law_k"] := pl_mk X N a24 l24 c24 k24 fun _ _ _ _ _ _ us hl => match us, hl with | [_, _], _ => rfl
  have p25 : Pl K mg "_law_draw" st_L_draw ["_law_cell", "_law_k", "_law_most"] := pl_mk X N a25 l25 c25 k25 fun _ _ _ _ _ _ us hl => match us, hl with | [_, _, _], _ => rfl
  have p26 : Pl K mg "_law_number" st_L_number ["_law_cell", "_law_k", "_law_limit"] := pl_mk X N a26 l26 c26 k26 fun _ _ _ _ _ _ us hl => match us, hl with | [_, _, _], _ => rfl
  have p27 : Pl K mg "_law_deep" st_L_deep ["_law_thing"] := pl_mk X N a27 l27 c27 k27 fun _ _ _ _ _ _ us hl => match us, hl with | [_], _ => rfl
  have p28 : Pl K mg "_law_spoilt" st_L_spoilt ["_law_found"] := pl_mk X N a28 l28 c28 k28 fun _ _ _ _ _ _ us hl => match us, hl with | [_], _ => rfl
  have p29 : Pl K mg "_law_put" st_L_put ["_law_handed", "_law_some"] := pl_mk X N a29 l29 c29 k29 fun _ _ _ _ _ _ us hl => match us, hl with | [_, _], _ => rfl
  have p30 : Pl K mg "_law_door_right" st_L_door_right ["_law_ask", "_law_lists", "_law_others"] := pl_mk X N a30 l30 c30 k30 fun _ _ _ _ _ _ us hl => match us, hl with | [_, _, _], _ => rfl
  have p31 : Pl K mg "_law_two" st_L_two ["_law_found"] := pl_mk X N a31 l31 c31 k31 fun _ _ _ _ _ _ us hl => match us, hl with | [_], _ => rfl
  have p32 : Pl K mg "_law_doors_right" st_L_doors_right ["_law_asks", "_law_lists", "_law_others"] := pl_mk X N a32 l32 c32 k32 fun _ _ _ _ _ _ us hl => match us, hl with | [_, _, _], _ => rfl
  have p33 : Pl K mg "_law_comes" st_L_comes ["_law_row"] := pl_mk X N a33 l33 c33 k33 fun _ _ _ _ _ _ us hl => match us, hl with | [_], _ => rfl
  refine ⟨PySem.W.fnOf "law" "law" (defArgs st_law) (defBody st_law) (defScope st_law) .none kV34 dc34 pm34 an34 (.ref cc34) ct34, cc34, P34, sp_law K [(P34, ("law.<locals>.<lambda>" : Str))], o34.2, n34, o34.1, fun s v => .of_eq rfl, fun H a ns hl _ hH hS => ⟨a, ns, rfl, hS, hl, ?_, fun _ => rfl⟩, fun base _ _ tb34 => ?_⟩
  · intro p hp
    simp only [List.mem_cons, List.not_mem_nil, or_false] at hp
    subst hp
    exact .nil hH
  have hm34 : (P34, ("law.<locals>.<lambda>" : Str)) ∈ ([(P34, ("law.<locals>.<lambda>" : Str))] : List (Addr × Str)) := by simp
  have hu34 : ∀ p ∈ ([(P34, ("law.<locals>.<lambda>" : Str))] : List (Addr × Str)), p.1 = P34 → p.2 = ("law.<locals>.<lambda>" : Str) := by
    intro p hp e
    simp only [List.mem_cons, List.not_mem_nil, or_false] at hp
    subst hp
    rfl
  have DA_is_number : ∀ b : Heap, Def l.prog w K mg b CX0 1 "is_number" ["thing"] (sp_is_number K) := fun b => d_is_number G T p0 
  have DA_check_row : ∀ b : Heap, Def l.prog w K mg b CX0 2 "check_row" ["row"] (sp_check_row K) := fun b => d_check_row G T p1 (DA_is_number b)
  have DA_counts_of : ∀ b : Heap, Def l.prog w K mg b CX0 1 "counts_of" ["row"] (sp_counts_of K) := fun b => d_counts_of G T p2 
  have DA_counts : ∀ b : Heap, Def l.prog w K mg b CX0 3 "counts" ["row"] (sp_counts K) := fun b => d_counts G T p3 (DA_check_row b) (DA_counts_of b)
  have DA_pattern : ∀ b : Heap, Def l.prog w K mg b CX0 3 "pattern" ["row"] (sp_pattern K) := fun b => d_pattern G T p4 (DA_check_row b)
  have DA_left_for : ∀ b : Heap, Def l.prog w K mg b CX0 1 "left_for" ["row", "place"] (sp_left_for K) := fun b => d_left_for G T p5 
  have DA_first_wrong : ∀ b : Heap, Def l.prog w K mg b CX0 2 "first_wrong" ["row"] (sp_first_wrong K) := fun b => d_first_wrong G T p6 (DA_left_for b)
  have DA_Comes___init__ : ∀ b : Heap, Mkd l.prog w K mg b CX0 1 "Comes" CC ["self", "signs"] (sp_Comes___init__ K CC CN) := fun b => d_Comes___init__ G T p7 
  have DA_Comes_shows : ∀ b : Heap, Mtd l.prog w K mg b CX0 2 "shows" CC ["self", "row"] (sp_Comes_shows K CC CN) := fun b => d_Comes_shows G T p8 (DA_counts_of b)
  have DA_Never___init__ : ∀ b : Heap, Mkd l.prog w K mg b CX0 1 "Never" CN ["self", "place"] (sp_Never___init__ K CC CN) := fun b => d_Never___init__ G T p9 
  have DA_Never_shows : ∀ b : Heap, Mtd l.prog w K mg b CX0 2 "shows" CN ["self", "row"] (sp_Never_shows K CC CN) := fun b => d_Never_shows G T p10 (DA_left_for b)
  have DA_check_counts : ∀ b : Heap, Def l.prog w K mg b CX0 3 "check_counts" ["row"] (sp_check_counts K) := fun b => d_check_counts G T p11 (DA_check_row b) (DA_first_wrong b)
  have DA_many_of : ∀ b : Heap, Def l.prog w K mg b CX0 2 "many_of" ["row"] (sp_many_of K) := fun b => d_many_of G T p12 (DA_left_for b)
  have DA_how_many : ∀ b : Heap, Def l.prog w K mg b CX0 3 "how_many" ["row"] (sp_how_many K) := fun b => d_how_many G T p13 (DA_check_row b) (DA_many_of b) (DA_first_wrong b)
  have DA_pattern_of : ∀ b : Heap, Def l.prog w K mg b CX0 3 "pattern_of" ["row", "number"] (sp_pattern_of K) := fun b => d_pattern_of G T p14 (DA_many_of b)
  have DA_pattern_by : ∀ b : Heap, Def l.prog w K mg b CX0 4 "pattern_by" ["row", "number"] (sp_pattern_by K) := fun b => d_pattern_by G T p15 (DA_check_counts b) (DA_pattern_of b) (DA_is_number b) (DA_many_of b)
  have DA_number_in : ∀ b : Heap, Def l.prog w K mg b CX0 4 "number_in" ["row"] (sp_number_in K) := fun b => d_number_in G T p16 (DA_pattern b) (DA_counts_of b)
  have DA_comes : ∀ b : Heap, Def l.prog w K mg b CX0 4 "comes" ["row"] (sp_comes K CC CN) := fun b => d_comes G T p17 (DA_check_row b) (DA_first_wrong b) (DA_Never___init__ b) (DA_Comes___init__ b) (DA_pattern_of b)
  have DA_wider : ∀ b : Heap, Def l.prog w K mg b CX0 1 "wider" ["shape"] (sp_wider K) := fun b => d_wider G T p18 
  have DA_ways_on : ∀ b : Heap, Def l.prog w K mg b CX0 22 "ways_on" ["shape", "left", "known"] (sp_ways_on K l.prog w) := fun b => d_ways_on G p19 (DA_wider b)
  have DA_number_of : ∀ b : Heap, Def l.prog w K mg b CX0 23 "number_of" ["row"] (sp_number_of K) := fun b => d_number_of G T p20 (DA_check_counts b) (DA_wider b) (DA_ways_on b)
  have DA_shape_of : ∀ b : Heap, Def l.prog w K mg b CX0 4 "shape_of" ["row"] (sp_shape_of K) := fun b => d_shape_of G T p21 (DA_check_counts b)
  have DA_check_shape : ∀ b : Heap, Def l.prog w K mg b CX0 2 "check_shape" ["shape"] (sp_check_shape K) := fun b => d_check_shape G T p22 (DA_is_number b)
  have DA_of_shape : ∀ b : Heap, Def l.prog w K mg b CX0 3 "of_shape" ["shape"] (sp_of_shape K) := fun b => d_of_shape G T p23 (DA_check_shape b)
  have DA_L_cell_at : ∀ b : Heap, Def l.prog w K mg b CX0 1 "_law_cell_at" ["_law_script", "_law_k"] (sp_L_cell_at K) := fun b => d_L_cell_at G T p24 
  have DA_L_draw : ∀ b : Heap, Def l.prog w K mg b CX0 1 "_law_draw" ["_law_cell", "_law_k", "_law_most"] (sp_L_draw K) := fun b => d_L_draw G T p25 
  have DA_L_number : ∀ b : Heap, Def l.prog w K mg b CX0 2 "_law_number" ["_law_cell", "_law_k", "_law_limit"] (sp_L_number K) := fun b => d_L_number G T p26 (DA_L_draw b)
  have DA_L_deep : ∀ b : Heap, Def l.prog w K mg b CX0 4 "_law_deep" ["_law_thing"] (sp_L_deep K) := fun b => d_L_deep G p27 
  have DA_L_spoilt : ∀ b : Heap, Def l.prog w K mg b CX0 3 "_law_spoilt" ["_law_found"] (sp_L_spoilt K) := fun b => d_L_spoilt G p28 
  have DA_L_put : ∀ b : Heap, Def l.prog w K mg b CX0 5 "_law_put" ["_law_handed", "_law_some"] (sp_L_put K) := fun b => d_L_put G T p29 (DA_L_deep b)
  have DA_L_door_right : ∀ b : Heap, DefG l.prog w K mg b 31 "_law_door_right" ["_law_ask", "_law_lists", "_law_others"] (sp_L_door_right l.prog w K mg b) := fun b => d_L_door_right G T p30 (DA_L_deep b) (DA_L_spoilt b) (DA_L_put b)
  have DA_L_two : ∀ b : Heap, Def l.prog w K mg b CX0 1 "_law_two" ["_law_found"] (sp_L_two K) := fun b => d_L_two G T p31 
  have DA_L_doors_right : ∀ b : Heap, DefG l.prog w K mg b 32 "_law_doors_right" ["_law_asks", "_law_lists", "_law_others"] (sp_L_doors_right l.prog w K mg b) := fun b => d_L_doors_right G T p32 (DA_L_door_right b)
  have DA_L_comes : ∀ b : Heap, Def l.prog w K mg b CX0 5 "_law_comes" ["_law_row"] (sp_L_comes K CC CN) := fun b => d_L_comes G T p33 (DA_comes b) (DA_Comes_shows b) (DA_Never_shows b)
  exact d_law G T l34 c34 tb34 hm34 hu34 DA_comes DA_L_number DA_counts DA_L_doors_right DA_L_cell_at DA_L_two DA_L_comes DA_pattern DA_shape_of DA_how_many DA_pattern_by DA_number_of DA_Comes_shows DA_Never_shows DA_of_shape DA_number_in DA_Never___init__
end Oa
open PySem PySem.W PyProof.Rows
set_option maxHeartbeats 0 in
theorem PySem.Challenge.cw_oftenahead_k08_whole_anew_holds : PySem.Challenge.rw_oftenahead_k08_whole_anew.Holds := by
  w_on; o_law; k_head; (case hw => w_witness2)
  k_fill
  refine Oa.walk_ofG (l := PySem.Challenge.rw_oftenahead_k08_whole_anew) (n := 63) (k := 33) (x := "_law_script") (names := ["law"]) rfl (by decide) rfl ⟨rfl, by decide, by decide⟩ (by decide +kernel) (fun w h Y => PySem.W.km_in_of Y) ?F
  case F =>
    intro w mg fa h KX G hmg own
    refine' Oa.all_mk KX G hmg own ?gCA ?gCC ?gCN ?pgCC ?hdCC ?poCC ?saCC ?haCC ?hmCC ?nfCC ?mkCC ?kcCC ?pgCN ?hdCN ?poCN ?saCN ?haCN ?hmCN ?nfCN ?mkCN ?kcCN ?hn0 ?ht0 ?icCA ?tyCA ?icCC ?tyCC ?icCN ?tyCN ?kkCACA ?kkCCCC ?kkCCCN ?kkCCCA ?kkCNCC ?kkCNCN ?kkCNCA ?a0 ?l0 ?c0 ?k0 ?a1 ?l1 ?c1 ?k1 ?a2 ?l2 ?c2 ?k2 ?a3 ?l3 ?c3 ?k3 ?a4 ?l4 ?c4 ?k4 ?a5 ?l5 ?c5 ?k5 ?a6 ?l6 ?c6 ?k6 ?a7 ?i7 ?l7 ?c7 ?k7 ?a8 ?i8 ?l8 ?c8 ?k8 ?a9 ?i9 ?l9 ?c9 ?k9 ?a10 ?i10 ?l10 ?c10 ?k10 ?a11 ?l11 ?c11 ?k11 ?a12 ?l12 ?c12 ?k12 ?a13 ?l13 ?c13 ?k13 ?a14 ?l14 ?c14 ?k14 ?a15 ?l15 ?c15 ?k15 ?a16 ?l16 ?c16 ?k16 ?a17 ?l17 ?c17 ?k17 ?a18 ?l18 ?c18 ?k18 ?a19 ?l19 ?c19 ?k19 ?a20 ?l20 ?c20 ?k20 ?a21 ?l21 ?c21 ?k21 ?a22 ?l22 ?c22 ?k22 ?a23 ?l23 ?c23 ?k23 ?a24 ?l24 ?c24 ?k24 ?a25 ?l25 ?c25 ?k25 ?a26 ?l26 ?c26 ?k26 ?a27 ?l27 ?c27 ?k27 ?a28 ?l28 ?c28 ?k28 ?a29 ?l29 ?c29 ?k29 ?a30 ?l30 ?c30 ?k30 ?a31 ?l31 ?c31 ?k31 ?a32 ?l32 ?c32 ?k32 ?a33 ?l33 ?c33 ?k33 ?a34 ?l34 ?c34 ?k34 ?t34 ?v34 ?n34 ?z0 ?z1 ?z2 ?z3 ?z4 ?z5 ?z6 ?z7 ?z8 ?z9 ?z10 ?z11 ?z12 ?z13 ?w0
    (case gCA => k_is); (case gCC => k_is); (case gCN => k_is); (case pgCC => k_is); (case hdCC => k_is); (case poCC => k_is); (case saCC => k_is); (case haCC => k_is); (case hmCC => k_is); (case nfCC => k_is); (case mkCC => k_is); (case kcCC => k_is); (case pgCN => k_is); (case hdCN => k_is); (case poCN => k_is); (case saCN => k_is); (case haCN => k_is); (case hmCN => k_is); (case nfCN => k_is); (case mkCN => k_is); (case kcCN => k_is); (case hn0 => k_is); (case ht0 => k_is); (case icCA => k_is); (case tyCA => k_is); (case icCC => k_is); (case tyCC => k_is); (case icCN => k_is); (case tyCN => k_is); (case kkCACA => k_is); (case kkCCCC => k_is); (case kkCCCN => k_is); (case kkCCCA => k_is); (case kkCNCC => k_is); (case kkCNCN => k_is); (case kkCNCA => k_is); (case a0 => k_is); (case l0 => k_is); (case c0 => k_is); (case k0 => k_is); (case a1 => k_is); (case l1 => k_is); (case c1 => k_is); (case k1 => k_is); (case a2 => k_is); (case l2 => k_is); (case c2 => k_is); (case k2 => k_is); (case a3 => k_is); (case l3 => k_is); (case c3 => k_is); (case k3 => k_is); (case a4 => k_is); (case l4 => k_is); (case c4 => k_is); (case k4 => k_is); (case a5 => k_is); (case l5 => k_is); (case c5 => k_is); (case k5 => k_is); (case a6 => k_is); (case l6 => k_is); (case c6 => k_is); (case k6 => k_is); (case a7 => k_is); (case i7 => k_is); (case l7 => k_is); (case c7 => k_is); (case k7 => k_is); (case a8 => k_is); (case i8 => k_is); (case l8 => k_is); (case c8 => k_is); (case k8 => k_is); (case a9 => k_is); (case i9 => k_is); (case l9 => k_is); (case c9 => k_is); (case k9 => k_is); (case a10 => k_is); (case i10 => k_is); (case l10 => k_is); (case c10 => k_is); (case k10 => k_is); (case a11 => k_is); (case l11 => k_is); (case c11 => k_is); (case k11 => k_is); (case a12 => k_is); (case l12 => k_is); (case c12 => k_is); (case k12 => k_is); (case a13 => k_is); (case l13 => k_is); (case c13 => k_is); (case k13 => k_is); (case a14 => k_is); (case l14 => k_is); (case c14 => k_is); (case k14 => k_is); (case a15 => k_is); (case l15 => k_is); (case c15 => k_is); (case k15 => k_is); (case a16 => k_is); (case l16 => k_is); (case c16 => k_is); (case k16 => k_is); (case a17 => k_is); (case l17 => k_is); (case c17 => k_is); (case k17 => k_is); (case a18 => k_is); (case l18 => k_is); (case c18 => k_is); (case k18 => k_is); (case a19 => k_is); (case l19 => k_is); (case c19 => k_is); (case k19 => k_is); (case a20 => k_is); (case l20 => k_is); (case c20 => k_is); (case k20 => k_is); (case a21 => k_is); (case l21 => k_is); (case c21 => k_is); (case k21 => k_is); (case a22 => k_is); (case l22 => k_is); (case c22 => k_is); (case k22 => k_is); (case a23 => k_is); (case l23 => k_is); (case c23 => k_is); (case k23 => k_is); (case a24 => k_is); (case l24 => k_is); (case c24 => k_is); (case k24 => k_is); (case a25 => k_is); (case l25 => k_is); (case c25 => k_is); (case k25 => k_is); (case a26 => k_is); (case l26 => k_is); (case c26 => k_is); (case k26 => k_is); (case a27 => k_is); (case l27 => k_is); (case c27 => k_is); (case k27 => k_is); (case a28 => k_is); (case l28 => k_is); (case c28 => k_is); (case k28 => k_is); (case a29 => k_is); (case l29 => k_is); (case c29 => k_is); (case k29 => k_is); (case a30 => k_is); (case l30 => k_is); (case c30 => k_is); (case k30 => k_is); (case a31 => k_is); (case l31 => k_is); (case c31 => k_is); (case k31 => k_is); (case a32 => k_is); (case l32 => k_is); (case c32 => k_is); (case k32 => k_is); (case a33 => k_is); (case l33 => k_is); (case c33 => k_is); (case k33 => k_is); (case a34 => k_is); (case l34 => k_is); (case c34 => k_is); (case k34 => k_is); (case t34 => k_is); (case v34 => exact rfl); (case n34 => kernel_rfl); (case z0 => k_is); (case z1 => k_is); (case z2 => k_is); (case z3 => k_is); (case z4 => k_is); (case z5 => k_is); (case z6 => k_is); (case z7 => k_is); (case z8 => k_is); (case z9 => k_is); (case z10 => k_is); (case z11 => k_is); (case z12 => k_is); (case z13 => k_is); (case w0 => k_is)
