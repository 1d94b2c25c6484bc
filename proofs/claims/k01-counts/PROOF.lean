import PyProof.Rows.All
import HandS.ForMost
import HandS.IsInst
import HandS.SetFor
import HandS.SetKeys
import HandS.Evl
import HandS.Wide
import HandS.EndBits
import HandS.Zip
import HandS.Deep
import HandS.Style
import HandS.SortInts
import PySem.Challenge.RW_oftenahead_k01_counts
set_option Elab.async false
set_option linter.all false
set_option maxRecDepth 100000
set_option maxHeartbeats 4000000
/-! plain mathematics of the program: no Python here -/
namespace Oa

/-! ### the law's draws -/
def cellAt (ns : List Int) (k : Nat) : Int := ns.getD k 0
def primes : List Int := [1000003, 1000033, 1000037, 1000039, 1000081, 1000099, 1000117, 1000121, 1000133, 1000151, 1000159, 1000171, 1000183, 1000187, 1000193, 1000199]
def drawF (c : Int) (k : Nat) (most : Int) : Int := (c * 48271 + (k : Int) * 69621) % (primes.getD (k % 16) 1) % most
def divs : List Int := [1, 7, 49, 343, 2401]
def numF (c : Int) (k : Nat) (lim : Int) : Int :=
  if 10 ^ 18 ≤ c then (c - 10 ^ 18) / (divs.getD (k % 5) 1) % lim
  else drawF ((c + 977 * (k : Int)) * (c + 31 * (k : Int) + 5)) (k % 9 + 1) 999983 % lim
theorem numF_nn (c : Int) (k : Nat) {lim : Int} (h : 0 < lim) : 0 ≤ numF c k lim := by
  unfold numF; split <;> exact Int.emod_nonneg _ (by omega)
theorem numF_lt (c : Int) (k : Nat) {lim : Int} (h : 0 < lim) : numF c k lim < lim := by
  unfold numF; split <;> exact Int.emod_lt_of_pos _ h
def signL : List Int := [5, -3, 0, 10 ^ 20, 7, -1, 12, 40]
def signsF (ns : List Int) (b : Nat) (most many : Int) : List Int :=
  (List.range (numF (cellAt ns b) b (most + 1)).toNat).map fun k => signL.getD (numF (cellAt ns (b + k + 1) + 31 * (k : Int)) (k + b + 2) many).toNat 0
theorem signsF_len (ns : List Int) (b : Nat) (most many : Int) (h : 0 ≤ most) : ((signsF ns b most many).length : Int) ≤ most := by
  unfold signsF
  rw [List.length_map, List.length_range]
  have h1 := numF_nn (cellAt ns b) b (lim := most + 1) (by omega)
  have h2 := numF_lt (cellAt ns b) b (lim := most + 1) (by omega)
  omega

/-! ### lists -/
theorem map_getD {α : Type} (f : Int → α) (l : List Int) : (List.range l.length).map (fun i => f (l.getD i 0)) = l.map f := by
  apply List.ext_getElem?
  intro i
  rw [List.getElem?_map, List.getElem?_map]
  by_cases hi : i < l.length
  · rw [List.getElem?_range hi, List.getElem?_eq_getElem hi, Option.map_some, Option.map_some, List.getD_eq_getElem?_getD, List.getElem?_eq_getElem hi]
    rfl
  · rw [List.getElem?_eq_none (by rw [List.length_range]; omega), List.getElem?_eq_none (by omega)]
    rfl
/-! ### counts and patterns -/
/-- for each place how often its sign stands ahead -/
def countsF (row : List Int) : List Int := (List.range row.length).map fun i => ((row.take i).count (row.getD i 0) : Int)
theorem countsF_len (row : List Int) : (countsF row).length = row.length := by unfold countsF; rw [List.length_map, List.length_range]
theorem countsF_get {row : List Int} {i : Nat} (h : i < row.length) : (countsF row)[i]? = some ((row.take i).count (row.getD i 0) : Int) := by
  unfold countsF; rw [List.getElem?_map, List.getElem?_range h]; rfl
theorem countsF_snoc (row : List Int) (s : Int) : countsF (row ++ [s]) = countsF row ++ [((row.count s : Nat) : Int)] := by
  unfold countsF
  rw [List.length_append, List.length_singleton, List.range_succ, List.map_append]
  congr 1
  · apply List.map_congr_left
    intro i hi
    have hi' : i < row.length := List.mem_range.mp hi
    rw [List.take_append_of_le_length (by omega)]
    congr 2
    rw [List.getD_eq_getElem?_getD, List.getD_eq_getElem?_getD, List.getElem?_append_left hi']
  · simp
/-- the signs as they are first met -/
def firsts : List Int → List Int → List Int
  | acc, [] => acc
  | acc, s :: r => firsts (if s ∈ acc then acc else acc ++ [s]) r
theorem firsts_snoc (acc row : List Int) (s : Int) : firsts acc (row ++ [s]) = if s ∈ firsts acc row then firsts acc row else firsts acc row ++ [s] := by
  induction row generalizing acc with
  | nil => rfl
  | cons a r ih => show firsts _ (r ++ [s]) = _; rw [ih]; rfl
theorem firsts_pre (acc row : List Int) : ∃ more, firsts acc row = acc ++ more := by
  induction row generalizing acc with
  | nil => exact ⟨[], by simp [firsts]⟩
  | cons a r ih =>
    obtain ⟨m, e⟩ := ih (if a ∈ acc then acc else acc ++ [a])
    show ∃ more, firsts _ r = _
    rw [e]
    split
    · exact ⟨m, rfl⟩
    · exact ⟨[a] ++ m, by rw [List.append_assoc]⟩
theorem firsts_mem (acc row : List Int) (s : Int) : s ∈ firsts acc row ↔ s ∈ acc ∨ s ∈ row := by
  induction row generalizing acc with
  | nil => simp [firsts]
  | cons a r ih =>
    show s ∈ firsts _ r ↔ _
    rw [ih]
    split
    · rename_i h
      constructor
      · rintro (h1 | h1)
        · exact .inl h1
        · exact .inr (List.mem_cons_of_mem _ h1)
      · rintro (h1 | h1)
        · exact .inl h1
        · rcases List.mem_cons.mp h1 with e | e
          · subst e; exact .inl h
          · exact .inr e
    · simp only [List.mem_append, List.mem_cons, List.not_mem_nil, or_false]
      constructor
      · rintro ((h1 | h1) | h1)
        · exact .inl h1
        · exact .inr (.inl h1)
        · exact .inr (.inr h1)
      · rintro (h1 | h1 | h1)
        · exact .inl (.inl h1)
        · exact .inl (.inr h1)
        · exact .inr h1
theorem firsts_nodup (acc row : List Int) (h : acc.Nodup) : (firsts acc row).Nodup := by
  induction row generalizing acc with
  | nil => exact h
  | cons a r ih =>
    show (firsts _ r).Nodup
    apply ih
    split
    · exact h
    · rename_i hn
      rw [List.nodup_append]
      refine ⟨h, by simp, fun x hx y hy => ?_⟩
      rw [List.mem_singleton] at hy
      subst hy
      intro e
      subst e
      exact hn hx
theorem firsts_len (acc row : List Int) : (firsts acc row).length ≤ acc.length + row.length := by
  induction row generalizing acc with
  | nil => exact Nat.le_refl _
  | cons a r ih =>
    show (firsts _ r).length ≤ _
    refine Nat.le_trans (ih _) ?_
    split
    · rw [List.length_cons]; omega
    · rw [List.length_append, List.length_singleton, List.length_cons]; omega
def patternF (row : List Int) : List Int := row.map fun s => (((firsts [] row).idxOf s : Nat) : Int)
theorem patternF_len (row : List Int) : (patternF row).length = row.length := by unfold patternF; rw [List.length_map]
theorem idx_app {l m : List Int} {s : Int} (h : s ∈ l) : (l ++ m).idxOf s = l.idxOf s := by
  induction l with
  | nil => cases h
  | cons a r ih =>
    rw [List.cons_append, List.idxOf_cons, List.idxOf_cons]
    by_cases e : (a == s) = true
    · rw [e]; rfl
    · have e' : (a == s) = false := by simpa using e
      rw [e']
      have hm : s ∈ r := by
        rcases List.mem_cons.mp h with q | q
        · subst q; simp at e
        · exact q
      show (r ++ m).idxOf s + 1 = r.idxOf s + 1
      rw [ih hm]
theorem idx_inj {l : List Int} {s t : Int} (hs : s ∈ l) (e : l.idxOf s = l.idxOf t) : s = t := by
  induction l with
  | nil => cases hs
  | cons a r ih =>
    rw [List.idxOf_cons, List.idxOf_cons] at e
    by_cases h1 : a = s
    · subst h1
      by_cases h2 : a = t
      · exact h2
      · have q : (a == t) = false := by simpa using h2
        rw [q] at e
        simp at e
    · have q1 : (a == s) = false := by simpa using h1
      by_cases h2 : a = t
      · subst h2
        rw [q1] at e
        simp at e
      · have q2 : (a == t) = false := by simpa using h2
        rw [q1, q2] at e
        have e' : r.idxOf s = r.idxOf t := by simpa using e
        refine ih ?_ e'
        rcases List.mem_cons.mp hs with z | z
        · exact absurd z.symm h1
        · exact z
theorem patternF_snoc (row : List Int) (s : Int) : patternF (row ++ [s]) = patternF row ++ [(((firsts [] (row ++ [s])).idxOf s : Nat) : Int)] := by
  unfold patternF
  rw [List.map_append]
  congr 1
  apply List.map_congr_left
  intro x hx
  congr 1
  rw [firsts_snoc]
  split
  · rfl
  · exact idx_app ((firsts_mem [] row x).mpr (.inr hx))
theorem count_map_inj (f : Int → Int) (l : List Int) (s : Int) (h : ∀ x ∈ l, f x = f s → x = s) : (l.map f).count (f s) = l.count s := by
  induction l with
  | nil => rfl
  | cons a r ih =>
    rw [List.map_cons, List.count_cons, List.count_cons, ih fun x hx => h x (List.mem_cons_of_mem _ hx)]
    congr 1
    by_cases e : a = s
    · subst e; simp
    · have e2 : ¬ f a = f s := fun q => e (h a (List.mem_cons_self ..) q)
      rw [beq_eq_false_iff_ne.mpr e, beq_eq_false_iff_ne.mpr e2]
theorem countsF_map (f : Int → Int) (row : List Int) (h : ∀ x ∈ row, ∀ y ∈ row, f x = f y → x = y) : countsF (row.map f) = countsF row := by
  unfold countsF
  rw [List.length_map]
  apply List.map_congr_left
  intro i hi
  have hi' : i < row.length := List.mem_range.mp hi
  congr 1
  have e1 : (row.map f).getD i 0 = f (row.getD i 0) := by
    rw [List.getD_eq_getElem?_getD, List.getD_eq_getElem?_getD, List.getElem?_map, List.getElem?_eq_getElem hi']; rfl
  have hm : row.getD i 0 ∈ row := by
    rw [List.getD_eq_getElem?_getD, List.getElem?_eq_getElem hi']; exact List.getElem_mem hi'
  rw [e1, ← List.map_take]
  exact count_map_inj f _ _ fun x hx q => h x (List.mem_of_mem_take hx) _ hm q
theorem counts_pattern (row : List Int) : countsF (patternF row) = countsF row := by
  apply countsF_map
  intro x hx y hy e
  have e' : (firsts [] row).idxOf x = (firsts [] row).idxOf y := by omega
  exact idx_inj ((firsts_mem [] row x).mpr (.inr hx)) e'
end Oa
namespace Oa
open PySem PySem.Spec PyProof.Rows L2 Evl

/-! ### defs by their names -/
structure Def (P : Program) (w : World) (K : PySem.W.Frag) (mg : Str → Option Value) (base : Heap) (CX : CXT) (k : Nat) (x : Str) (ps : List Str) (sp : Sp) : Prop where
  ex : ∃ (f : Addr) (fd : FuncData), FnOk P w K mg base CX k f fd ps sp ∧ mg x = some (.ref f) ∧ PySem.W.keepIn K (.ref f) = true ∧ Binds K fd ps []
/-- a def as the top has left it -/
structure Pl (K : PySem.W.Frag) (mg : Str → Option Value) (x : Str) (st : Stmt) (ps : List Str) : Prop where
  ex : ∃ (f : Addr) (fd : FuncData), Fun K x x st f fd ∧ mg x = some (.ref f) ∧ Binds K fd ps []
section
variable {P : Program} {w : World} {K : PySem.W.Frag} {mg : Str → Option Value} {base : Heap}
theorem Def.mono {CX : CXT} {j k : Nat} {x : Str} {ps : List Str} {sp : Sp} (d : Def P w K mg base CX j x ps sp) (h : j ≤ k) : Def P w K mg base CX k x ps sp := by
  obtain ⟨f, fd, F, a, b, c⟩ := d.ex
  exact ⟨f, fd, F.mono h, a, b, c⟩
theorem Def.imp {CX : CXT} {k : Nat} {x : Str} {ps : List Str} {sp sp' : Sp} (d : Def P w K mg base CX k x ps sp) (h : ∀ vs H Q E, sp' vs H Q E → sp vs H Q E) : Def P w K mg base CX k x ps sp' := by
  obtain ⟨f, fd, F, a, b, c⟩ := d.ex
  exact ⟨f, fd, F.imp h, a, b, c⟩
theorem Pl.ok {x : Str} {st : Stmt} {N ps : List Str} {k : Nat} {sp : Sp} (p : Pl K mg x st ps) (S : FnScope N ps (defScope st)) (len : ∀ vs H Q E, sp vs H Q E → vs.length = ps.length)
    (hbody : ∀ (f : Addr) (cdv : Value) (A : Around) (outer : List Env) (s : Shared) (H : Hp) (vs : List V) (Q : VK) (E : XK), Room k (A.deeper (envOfC x (defScope st) s.heap.objs.size f cdv)) → sp vs H Q E →
      ∃ t, PSs (cxOf CX0 P w K mg base N x (defScope st) f cdv A outer s H E).nox (defBody st) t ∧ t { nx := fun _ H' => Q .non H', rt := Q } (start N vs) H) : Def P w K mg base CX0 (k + 1) x ps sp := by
  obtain ⟨f, fd, F, hm, hb⟩ := p.ex
  exact ⟨f, fd, F.ok S len fun cdv A outer s H vs Q E hr h => hbody f cdv A outer s H vs Q E hr h, hm, F.kp, hb⟩
theorem pl_mk {h : Heap} {x : Str} {st : Stmt} {ps : List Str} {f : Addr} {oc : Value} {od an : Option Addr} {osl : Array (Option Value)} {kV doc pm cdv ct : Value} (X : K.In h) (G : h.Ns mainGlobals mg)
    (a : PySem.W.nsIn K mainGlobals x = some (some (.ref f)))
    (l : K.lookup f = some ⟨oc, od, .func (PySem.W.fnOf x x (defArgs st) (defBody st) (defScope st) .none kV doc pm an cdv ct), osl⟩)
    (c : PySem.W.codeIn K cdv x = true) (k : PySem.W.keepIn K (.ref f) = true)
    (hb : ∀ (kV doc pm : Value) (an : Option Addr) (cdv ct : Value) (us : List Value), us.length = ps.length → bindArgs (PySem.W.fnOf x x (defArgs st) (defBody st) (defScope st) .none kV doc pm an cdv ct) ⟨us, []⟩ = pure (ps.zip us)) : Pl K mg x st ps :=
  ⟨f, _, fun_mk l c k, PySem.W.mg_of X G a, (fun_mk l c k).binds hb⟩
end
section
variable {X : Cx} {CX : CXT} {j k : Nat} {x : Str} {ps : List Str} {sp : Sp} {E : XK} {p pos : Pos} {e : Expr} {es : List Expr} {t : TA}
theorem pe_fn (d : Def X.prog X.w X.K X.mg X.base CX j x ps sp) (hj : j ≤ k) (hr : Room k X.A) (hg : Gl X x) (hx : Passes CX X E) (ha : PA X (e :: es) t)
    (hdb : (x == ("__debug__" : Str)) = false := by decide) (he : starEach (e :: es) X.env = (false, eval e X.env) :: starEach es X.env := by rfl) (hpl : (backTo pos (starEach es X.env)).any (·.1) = false := by rfl) :
    PE X (.Call (.Name x p) (e :: es) [] pos) (tCall sp [] E t) := by
  obtain ⟨f, fd, F, a, b, c⟩ := d.ex
  exact pe_call F (hr.mono hj) hg a b c .nil hx ha hdb he hpl
theorem pe_fn0 (d : Def X.prog X.w X.K X.mg X.base CX j x ps sp) (hj : j ≤ k) (hr : Room k X.A) (hg : Gl X x) (hx : Passes CX X E)
    (hdb : (x == ("__debug__" : Str)) = false := by decide) : PE X (.Call (.Name x p) [] [] pos) (tCall sp [] E tNil) := by
  obtain ⟨f, fd, F, a, b, c⟩ := d.ex
  exact pe_call0 F (hr.mono hj) hg a b c .nil hx hdb
/-- * of two ints that the model multiplies -/
theorem op_mulK : OpR X (binaryOp .Mult) (rI IntMulOk fun i j => .int (i * j)) := opI fun i j t u s Q E hc h => PyProof.Rows.mul_int h hc
end

/-! ### sizes of ints -/
def FitN (b : Nat) (c : Int) : Prop := ∃ m : Nat, 64 ≤ m ∧ m ≤ b ∧ c.natAbs < 2 ^ m
abbrev Fit (c : Int) : Prop := FitN 1048640 c
/-- a cell of the script -/
abbrev FitS (c : Int) : Prop := FitN 1048600 c
theorem FitN.of_bits {z : Int} (h : Builtin.Int.intBits z ≤ 1048576) : FitS z := by
  refine ⟨max 64 (z.natAbs.log2 + 1), Nat.le_max_left _ _, ?_, ?_⟩
  · have : z.natAbs.log2 + 1 ≤ 1048577 := by
      unfold Builtin.Int.intBits at h
      split at h
      · rename_i e
        have e' : z = 0 := by simpa using e
        subst e'
        decide
      · omega
    omega
  · exact Nat.lt_of_lt_of_le Nat.lt_log2_self (Nat.pow_le_pow_right (by decide) (Nat.le_max_right _ _))
theorem FitN.mono {b c : Nat} {z : Int} (h : FitN b z) (hb : b ≤ c) : FitN c z := by
  obtain ⟨m, h1, h2, h3⟩ := h
  exact ⟨m, h1, Nat.le_trans h2 hb, h3⟩
theorem FitN.zero {b : Nat} (h : 64 ≤ b) : FitN b 0 := ⟨64, Nat.le_refl _, h, by decide⟩
theorem fit_bits {c : Int} {m : Nat} (hm : 0 < m) (h : c.natAbs < 2 ^ m) : Builtin.Int.intBits c ≤ m := by
  unfold Builtin.Int.intBits
  split
  · exact Nat.zero_le _
  · rename_i e
    have e' : c.natAbs ≠ 0 := fun q => e (by simpa using Int.natAbs_eq_zero.mp q)
    have := (Nat.log2_lt e').mpr h
    omega
theorem fit_add {c d : Int} {m : Nat} (h1 : c.natAbs < 2 ^ m) (h2 : d.natAbs < 2 ^ m) : (c + d).natAbs < 2 ^ (m + 1) := by
  have := Int.natAbs_add_le c d
  rw [Nat.pow_succ]
  omega
theorem fit_small {d : Int} {m : Nat} (hm : 64 ≤ m) (h : d.natAbs < 18446744073709551616) : d.natAbs < 2 ^ m :=
  Nat.lt_of_lt_of_le h (Nat.le_trans (by decide : 18446744073709551616 ≤ 2 ^ 64) (Nat.pow_le_pow_right (by decide) hm))
theorem FitN.add {b : Nat} {c d : Int} (h : FitN b c) (hd : d.natAbs < 18446744073709551616) : FitN (b + 1) (c + d) := by
  obtain ⟨m, h1, h2, h3⟩ := h
  exact ⟨m + 1, by omega, by omega, fit_add h3 (fit_small h1 hd)⟩
theorem fit_cell {b : Nat} {ns : List Int} (hb : 64 ≤ b) (h : ∀ z ∈ ns, FitN b z) (k : Nat) : FitN b (ns.getD k 0) := by
  rw [List.getD_eq_getElem?_getD]
  cases e : ns[k]? with
  | none => exact FitN.zero hb
  | some z => exact h z (List.mem_of_getElem? e)
theorem mulOk_of {c d : Int} {m n : Nat} (h1 : Builtin.Int.intBits c ≤ m) (h2 : Builtin.Int.intBits d ≤ n) (h : m + n ≤ 134217728) : IntMulOk c d := by
  unfold IntMulOk
  intro z
  rw [Bool.and_eq_true] at z
  have z2 := z.2
  unfold Builtin.Int.intTooBig at z2
  have z3 := of_decide_eq_true z2
  have e : bitsLine = 134217728 := by decide
  rw [e] at z3
  omega

/-! ### more that evaluates -/
section
variable {K : PySem.W.Frag} {σ : L2.St} {H H' : Hp} {ta tb te tx : TE} {t u : TT} {x y z v : V} {r : R2} {D : Ends} {tu tw tz : TS} {g : TG}
theorem spv {sp : Sp} {vs : List V} {z : V} (h : ∀ H1, Ex H H1 → ∀ Q : VK, RetV z H1 Q → ∀ E : XK, sp vs H1 Q E) : SpV sp vs H z := fun H1 e Q q E => h H1 e Q (fun H2 e2 => q H2 e2) E
theorem spl {sp : Sp} {vs : List V} {zs : List V} (h : ∀ H1, Ex H H1 → ∀ Q : VK, RetL zs H1 Q → ∀ E : XK, sp vs H1 Q E) : SpL sp vs H zs := fun H1 e Q q E => h H1 e Q (fun p H2 n e2 a => q p H2 n e2 a) E
theorem rv_ixT' {p : Addr} {xs : List V} {i : Int} (h : H p = some (.tup xs)) (ha : atI xs i = some v) : RV (rIxT K) (.ref p) (.int i) H v := rv_ixT (st_of h) ha
/-- (a, b, ..)[i] -/
theorem ev_menu {xs : List V} {i : Int} (ha : EvU ta σ H xs) (hb : Ev tb σ H (.int i)) (hi : atI xs i = some v) : Ev (tOp (rIxT K) ta tb) σ H v := fun H1 e Q q =>
  ha H1 e _ fun p H2 n e2 a => hb H2 (e.trans e2) _ fun H3 e3 => rv_ixT (K := K) (st_of (e3 _ _ a)) hi H3 (Ex.refl _) Q fun H4 e4 => q H4 (e2.trans (e3.trans e4))
theorem tyx_list {a : Addr} {xs : List V} (h : SqL K H a xs) : TyX K H (.ref a) (.type "list") := by
  rcases h with (h | ⟨o, h⟩) | ⟨o, its, n, h1, h2, _⟩
  · exact .base (.lst h)
  · exact .base (.frz h)
  · exact .kList h1 h2
theorem tyx_int (i : Int) : TyX K H (.int i) (.type "int") := .base (.int i)
/-- isinstance(x, T), T a built-in class; the type's fact stands at every later heap -/
theorem ev_isi {ta : TA} {m n : String} {b : Bool} (h : EvA ta σ H [x, .ty n]) (ty : ∀ H1, Ex H H1 → TyX K H1 x (.type m)) (kb : kitB m n = some b) : Ev (tCB (rIsi K) ta) σ H (.bl b) :=
  ev_cb h fun H1 e Q q => ⟨x, .ty n, .type m, .type n, b, rfl, .ty n, ty H1 e, kit_ty kb, q H1 (Ex.refl _)⟩
/-- l.count(k) of ints -/
theorem ev_count {a : Addr} {ns : List Int} {i : Int} (ha : Ev ta σ H (.ref a)) (h : SqL K H a (ns.map V.int)) (hi : Ev te σ H (.int i)) : Ev (tBM K "list" (rCntI K) ta (tCons te tNil)) σ H (.int ((ns.count i : Nat) : Int)) := fun H1 e Q q =>
  ha H1 e _ fun H2 e2 => ⟨.inl ⟨rfl, _, ex_l (e.trans e2) h⟩, hi H2 (e.trans e2) _ fun H3 e3 => ⟨a, ns, i, rfl, rfl, ex_l (e.trans (e2.trans e3)) h, q H3 (e2.trans e3)⟩⟩
/-- .. of a new list -/
theorem ev_countL {ns : List Int} {i : Int} (ha : EvL ta σ H (ns.map V.int)) (hi : Ev te σ H (.int i)) : Ev (tBM K "list" (rCntI K) ta (tCons te tNil)) σ H (.int ((ns.count i : Nat) : Int)) := fun H1 e Q q =>
  ha H1 e _ fun p H2 n e2 a => ⟨.inl ⟨rfl, _, sq_of a⟩, hi H2 (e.trans e2) _ fun H3 e3 => ⟨p, ns, i, rfl, rfl, sq_of (e3 _ _ a), q H3 (e2.trans e3)⟩⟩
end
/-- a slice of a list of ints, from the start -/
theorem cut_to (ns : List Int) (k : Nat) : cutV (ns.map V.int) none (some (k : Int)) = (ns.take k).map V.int := by
  unfold cutV
  rw [HT.sIx_none, HT.sIx_nat, List.drop_zero, List.length_map, List.map_take, Nat.sub_zero]
  by_cases h : k ≤ ns.length
  · rw [Nat.min_eq_left h]
  · rw [Nat.min_eq_right (by omega), List.take_of_length_le (by rw [List.length_map]; omega), List.take_of_length_le (by rw [List.length_map]; omega)]
theorem cut_from (ns : List Int) (k : Nat) : cutV (ns.map V.int) (some (k : Int)) none = (ns.drop k).map V.int := by
  unfold cutV
  rw [HT.sIx_none, HT.sIx_nat, List.length_map, List.map_drop]
  by_cases h : k ≤ ns.length
  · rw [Nat.min_eq_left h]
    exact List.take_of_length_le (by rw [List.length_drop, List.length_map]; omega)
  · rw [Nat.min_eq_right (by omega), List.drop_of_length_le (by rw [List.length_map]; omega), List.drop_of_length_le (by rw [List.length_map]; omega), List.take_nil]

/-! ### comprehensions -/
theorem given_all (n : Nat) (v : Nat → V) : given n (fun _ => true) v = (List.range n).map v := by
  unfold given
  rw [List.filter_eq_self.mpr (fun _ _ => rfl)]
section
variable {K : PySem.W.Frag} {σ : L2.St} {H H' : Hp} {ta tb te tx : TE} {t u : TT} {x y z v : V} {r : R2} {D : Ends} {tu tw tz : TS} {g : TG}
theorem et_yes : EvT tYes σ H true := fun H1 e Q q => q H1 (Ex.refl _)
theorem el_is {xs ys : List V} (h : EvL te σ H xs) (e : xs = ys) : EvL te σ H ys := e ▸ h
/-- all(..), any(..) of a new list of bools -/
theorem ev_all {bs : List Bool} (h : EvL te σ H (bs.map V.bl)) : Ev (tCB (rAll K) (tCons te tNil)) σ H (.bl (bs.all id)) := fun H1 e Q q =>
  h H1 e _ fun p H2 n e2 a => ⟨p, bs, rfl, sq_of a, q H2 e2⟩
theorem ev_any {bs : List Bool} (h : EvL te σ H (bs.map V.bl)) : Ev (tCB (rAny K) (tCons te tNil)) σ H (.bl (bs.any id)) := fun H1 e Q q =>
  h H1 e _ fun p H2 n e2 a => ⟨p, bs, rfl, sq_of a, q H2 e2⟩
/-- the turns of enumerate, for a comprehension -/
theorem lc_enum {a : Addr} {xs : List V} {j1 j2 : Nat} {vs : List Nat} {H1 : Hp} {Dl : Addr} {Qd : Hp → Prop} (Pv : Nat → Hp → Prop) (h0 : Pv 0 (upd H1 Dl (.lst []))) (hl : ∀ i H, i ≤ xs.length → Pv i H → SqL K H a xs)
    (hs : ∀ i x H T, xs[i]? = some x → Pv i H → H T = none → wipe (((wipe σ vs).set j1 (some (.int (i : Int)))).set j2 (some x)) vs = wipe σ vs ∧ t (((wipe σ vs).set j1 (some (.int (i : Int)))).set j2 (some x)) (upd H T (.tup [.int (i : Int), x])) fun b H3 =>
      if b = true then te (((wipe σ vs).set j1 (some (.int (i : Int)))).set j2 (some x)) H3 fun y H4 => ∃ acc, H4 Dl = some (.lst acc) ∧ acc.length < sizeLine ∧ Pv (i + 1) (upd H4 Dl (.lst (acc ++ [y]))) else Pv (i + 1) H3) (hd : ∀ H, Pv xs.length H → Qd H) :
    ∃ W : Nat → Nat → Hp → Prop, (∃ m, W 0 m (upd H1 Dl (.lst []))) ∧ ∀ i m H, W i m H →
      ((Ite K a).stop i H ∧ Qd H) ∨ ((Ite K a).go i H ∧ ∃ Nx : Hp → Prop, (∀ H', Nx H' → ∃ m', m' < m ∧ W (i + 1) m' H') ∧ ∀ x H', (Ite K a).yld i H x H' → (gTup K 2 (gCons (gName j1) (gCons (gName j2) gNil))) x (wipe σ vs) H' fun σ2 H2 => wipe σ2 vs = wipe σ vs ∧ t σ2 H2 fun b H3 =>
        if b = true then te σ2 H3 fun y H4 => ∃ acc, H4 Dl = some (.lst acc) ∧ acc.length < sizeLine ∧ Nx (upd H4 Dl (.lst (acc ++ [y]))) else Nx H3) := by
  refine ⟨fun i m H => i + m = xs.length ∧ Pv i H, ⟨xs.length, by omega, h0⟩, fun i m H hW => ?_⟩
  obtain ⟨em, hP⟩ := hW
  have hA := hl i H (by omega) hP
  by_cases hi : i < xs.length
  · refine .inr ⟨⟨xs, xs[i], hA, List.getElem?_eq_getElem hi⟩, Pv (i + 1), fun H' hp => ⟨m - 1, by omega, by omega, hp⟩, fun x H' hy => ?_⟩
    obtain ⟨T, x1, rfl, nT, rfl, f⟩ := hy
    have ex := f xs hA
    exact ⟨T, [.int (i : Int), x1], rfl, st_of upd_same, rfl, _, _, rfl, _, _, rfl, rfl, hs i x1 H T ex hP nT⟩
  · have ei : i = xs.length := by omega
    subst ei
    exact .inl ⟨⟨xs, hA, Nat.le_refl _⟩, hd H hP⟩
theorem el_lcE {a : Addr} {xs : List V} {tl : TE} {j1 j2 : Nat} {vs : List Nat} (f : Nat → Bool) (v : Nat → V) (h : Ev tl σ H (.ref a)) (hx : SqL K H a xs) (hz : xs.length ≤ 40000) (hw : ∀ x y, wipe (((wipe σ vs).set j1 (some x)).set j2 (some y)) vs = wipe σ vs)
    (ht : ∀ (i : Nat) (x : V) H1, Ex H H1 → xs[i]? = some x → EvT t (((wipe σ vs).set j1 (some (.int (i : Int)))).set j2 (some x)) H1 (f i)) (he : ∀ (i : Nat) (x : V) H1, Ex H H1 → xs[i]? = some x → f i = true → Ev te (((wipe σ vs).set j1 (some (.int (i : Int)))).set j2 (some x)) H1 (v i)) :
    EvL (tLc (iEnum K (tCons tl tNil)) (gTup K 2 (gCons (gName j1) (gCons (gName j2) gNil))) t te vs) σ H (given xs.length f v) := fun H0 e Q q => h H0 e _ fun H1 e1 => ⟨a, xs, rfl, ex_l (e.trans e1) hx, fun Dl hD =>
  lc_enum (xs := xs) (Cw H1 f v Dl) ⟨hD, Ex.new hD, upd_same⟩ (fun i H' _ p => ex_l ((e.trans e1).trans p.2.1) hx) (fun i x H' T hi p nT => by
    have nD : Dl ≠ T := ne_of_none p.2.2 nT
    have p' : Cw H1 f v Dl i (upd H' T (.tup [.int (i : Int), x])) := ⟨p.1, p.2.1.trans (Ex.new nT), by rw [upd_ne nD]; exact p.2.2⟩
    exact ⟨hw _ _, cw_turn p' (by have := (List.getElem?_eq_some_iff.mp hi).1; omega) (ht i x H1 (e.trans e1) hi) (fun hf => he i x H1 (e.trans e1) hi hf)⟩)
    (fun H' p => q Dl H' (fresh_back e1 p.1) (e1.trans p.2.1) p.2.2)⟩
/-- all items of a list of ints pass -/
theorem range_true (n : Nat) : (List.range n).map (fun _ => V.bl true) = (List.replicate n true).map V.bl := by
  induction n with
  | zero => rfl
  | succ n ih => rw [List.range_succ, List.map_append, ih, List.replicate_succ', List.map_append]; rfl
theorem rep_true (n : Nat) : (List.replicate n true).all id = true := by
  induction n with
  | zero => rfl
  | succ n ih => rw [List.replicate_succ, List.all_cons, ih]; rfl
/-- all([f(x) for x in xs]), each True -/
theorem ev_allL {a : Addr} {xs : List V} {tl : TE} {j : Nat} {vs : List Nat} (h : Ev tl σ H (.ref a)) (hx : SqL K H a xs) (hz : xs.length ≤ 40000) (hw : ∀ x, wipe ((wipe σ vs).set j (some x)) vs = wipe σ vs)
    (he : ∀ (i : Nat) (x : V) H1, Ex H H1 → xs[i]? = some x → Ev te ((wipe σ vs).set j (some x)) H1 (.bl true)) : Ev (tCB (rAll K) (tCons (tLc (iList K tl) (gName j) tYes te vs) tNil)) σ H (.bl true) :=
  ev_is (ev_all (bs := List.replicate xs.length true) (el_is (el_lcL (fun _ => true) (fun _ => .bl true) h hx hz hw (fun _ _ _ _ _ => et_yes) (fun i x H1 e hi _ => he i x H1 e hi)) (by rw [given_all, range_true]))) (by rw [rep_true])
end
theorem int_at {ns : List Int} {i : Nat} {x : V} (h : (ns.map V.int)[i]? = some x) : ∃ n, ns[i]? = some n ∧ x = .int n := by
  rw [List.getElem?_map] at h
  cases e : ns[i]? with
  | none => rw [e] at h; cases h
  | some n => rw [e] at h; exact ⟨n, rfl, (Option.some.inj h).symm⟩

/-! ### data -/
theorem dp_ints {K : PySem.W.Frag} {H : Hp} : ∀ ns : List Int, DpAll K H (ns.map V.int) (ns.map PyData.int)
  | [] => .nil
  | n :: r => .cons (.int n) (dp_ints r)
theorem dp_list {K : PySem.W.Frag} {H : Hp} {a : Addr} {ns : List Int} (h : SqL K H a (ns.map V.int)) : Dp K H (.ref a) (.list (ns.map .int)) := .lst h (dp_ints ns)
theorem lay_ints : ∀ ns : List Int, PyData.canLayAll0 (ns.map PyData.int) = true
  | [] => by simp only [List.map_nil, PyData.canLayAll0]
  | n :: r => by simp only [List.map_cons, PyData.canLayAll0, PyData.canLay0, lay_ints r, Bool.and_self]
theorem depth_ints : ∀ ns : List Int, PyData.depthAll (ns.map PyData.int) = 0
  | [] => by simp only [List.map_nil, PyData.depthAll]
  | n :: r => by simp only [List.map_cons, PyData.depthAll, PyData.depth, depth_ints r, Nat.max_self]
theorem shaped_ints (ns : List Int) : SeqAt.shaped (.list (ns.map .int)) = true := by
  unfold SeqAt.shaped
  simp only [PyData.canLay0, lay_ints, PyData.depth, depth_ints, Bool.true_and]
  decide
theorem eqv_ints : ∀ ns ms : List Int, PyData.eqvAll (ns.map .int) (ms.map .int) = decide (ns = ms)
  | [], [] => by simp [PyData.eqvAll]
  | [], _ :: _ => by simp [PyData.eqvAll]
  | _ :: _, [] => by simp [PyData.eqvAll]
  | n :: r, m :: s => by
    simp only [List.map_cons, PyData.eqvAll, PyData.eqv, eqv_ints r s]
    by_cases h : n = m <;> by_cases h2 : r = s <;> simp [h, h2]
theorem eqv_list (ns ms : List Int) : PyData.eqv (.list (ns.map .int)) (.list (ms.map .int)) = decide (ns = ms) := by
  simp only [PyData.eqv, eqv_ints]
section
variable {K : PySem.W.Frag} {σ : L2.St} {H H' : Hp} {ta tb te tx : TE} {t u : TT} {x y z v : V} {r : R2} {D : Ends} {tu tw tz : TS} {g : TG}
theorem rv_neI {p q : Addr} {ns ms : List Int} (h1 : SqL K H p (ns.map V.int)) (h2 : SqL K H q (ms.map V.int)) : RV (rNeD K) (.ref p) (.ref q) H (.bl (!decide (ns = ms))) := fun H1 e Q k =>
  ⟨_, _, dp_list (ex_l e h1), dp_list (ex_l e h2), shaped_ints ns, shaped_ints ms, by rw [eqv_list]; exact k H1 (Ex.refl _)⟩
theorem rv_eqI {p q : Addr} {ns ms : List Int} (h1 : SqL K H p (ns.map V.int)) (h2 : SqL K H q (ms.map V.int)) : RV (rEqD K) (.ref p) (.ref q) H (.bl (decide (ns = ms))) := fun H1 e Q k =>
  ⟨_, _, dp_list (ex_l e h1), dp_list (ex_l e h2), shaped_ints ns, shaped_ints ms, by rw [eqv_list]; exact k H1 (Ex.refl _)⟩

theorem rv_neSame {p q : Addr} {ns : List Int} (h1 : SqL K H p (ns.map V.int)) (h2 : SqL K H q (ns.map V.int)) : RV (rNeD K) (.ref p) (.ref q) H (.bl false) := by
  have h := rv_neI h1 h2
  rw [decide_eq_true rfl] at h
  exact h
theorem rv_eqSame {p q : Addr} {ns : List Int} (h1 : SqL K H p (ns.map V.int)) (h2 : SqL K H q (ns.map V.int)) : RV (rEqD K) (.ref p) (.ref q) H (.bl true) := by
  have h := rv_eqI h1 h2
  rw [decide_eq_true rfl] at h
  exact h

/-! ### in, index of ints -/
theorem flat_ints (ns : List Int) : (ns.map V.int).all flatV = true := by
  induction ns with
  | nil => rfl
  | cons n r ih => rw [List.map_cons, List.all_cons, ih]; rfl
theorem in_ints (i : Int) (ns : List Int) : inV (.int i) (ns.map V.int) = decide (i ∈ ns) := by
  unfold inV
  induction ns with
  | nil => rfl
  | cons n r ih =>
    rw [List.map_cons, List.any_cons, ih]
    show ((n == i) || decide (i ∈ r)) = _
    by_cases h : n = i
    · subst h; simp
    · have h' : ¬ i = n := fun e => h e.symm
      simp [h, h']
theorem idx_get {l : List Int} {s : Int} (h : s ∈ l) : l[l.idxOf s]? = some s := by
  induction l with
  | nil => cases h
  | cons a r ih =>
    rw [List.idxOf_cons]
    by_cases e : a = s
    · subst e; simp
    · have q : (a == s) = false := by simpa using e
      rw [q]
      show (a :: r)[r.idxOf s + 1]? = some s
      rw [List.getElem?_cons_succ]
      refine ih ?_
      rcases List.mem_cons.mp h with z | z
      · exact absurd z.symm e
      · exact z
theorem idx_first {l : List Int} {s : Int} {m : Nat} {z : Int} (hm : m < l.idxOf s) (hz : l[m]? = some z) : z ≠ s := by
  induction l generalizing m with
  | nil => simp at hz
  | cons a r ih =>
    rw [List.idxOf_cons] at hm
    by_cases e : a = s
    · subst e; simp at hm
    · have q : (a == s) = false := by simpa using e
      rw [q] at hm
      have hm' : m < r.idxOf s + 1 := hm
      cases m with
      | zero => simp at hz; subst hz; exact e
      | succ m =>
        have hm2 : m < r.idxOf s := by omega
        exact ih hm2 (by simpa using hz)
/-- l.index(k) of ints, k in l -/
theorem ev_index {a : Addr} {ns : List Int} {i : Int} (ha : Ev ta σ H (.ref a)) (h : SqL K H a (ns.map V.int)) (hi : Ev te σ H (.int i)) (hm : i ∈ ns) : Ev (tBM K "list" (rIndex K) ta (tCons te tNil)) σ H (.int ((ns.idxOf i : Nat) : Int)) := fun H1 e Q q =>
  ha H1 e _ fun H2 e2 => ⟨.inl ⟨rfl, _, ex_l (e.trans e2) h⟩, hi H2 (e.trans e2) _ fun H3 e3 => ⟨a, ns.map V.int, .int i, ns.idxOf i, .int i, rfl, rfl, ex_l (e.trans (e2.trans e3)) h, rfl, flat_ints ns, by rw [List.getElem?_map, idx_get hm]; rfl, by show (i == i) = true; simp,
    fun m z hm' hz => by
      obtain ⟨n, hn, rfl⟩ := int_at hz
      show (n == i) = false
      simpa using idx_first hm' hn, q H3 (e2.trans e3)⟩⟩

/-! ### dicts of ints -/
theorem ev_dget2 {d : Addr} {kvs : List (Key × V)} {k : Key} (hd : Ev ta σ H (.ref d)) (h : H d = some (.dK kvs)) (hk : Ev tb σ H (kV k)) (hx : Ev tx σ H z) : Ev (tDGet2 ta tb tx) σ H ((valV kvs k).getD z) := fun H1 e Q q =>
  hd H1 e _ fun H2 e2 => ⟨d, rfl, .inl ⟨kvs, .inl ((e.trans e2) _ _ h)⟩, hk H2 (e.trans e2) _ fun H3 e3 => hx H3 (e.trans (e2.trans e3)) _ fun H4 e4 => ⟨_, DGet.k ((e.trans (e2.trans (e3.trans e4))) _ _ h), q H4 (e2.trans (e3.trans e4))⟩⟩
theorem ev_dget {d : Addr} {kvs : List (Key × V)} {k : Key} (hd : Ev ta σ H (.ref d)) (h : H d = some (.dK kvs)) (hk : Ev tb σ H (kV k)) (hv : valV kvs k = some v) : Ev (tDGet ta tb) σ H v := fun H1 e Q q =>
  hd H1 e _ fun H2 e2 => hk H2 (e.trans e2) _ fun H3 e3 => ⟨d, v, rfl, hv ▸ DGet.k ((e.trans (e2.trans e3)) _ _ h), q H3 (e2.trans e3)⟩
theorem s_dput {d : Addr} {kvs : List (Key × V)} {k : Key} (h : H d = some (.dK kvs)) (hv : Ev te σ H v) (hd : Ev ta σ H (.ref d)) (hk : Ev tb σ H (kV k)) (hz : kvs.length < 100000) (c : ∀ H1, Ex H H1 → D.nx σ (upd H1 d (.dK (putK kvs k v)))) :
    sDPut ta tb te D σ H :=
  hv H (Ex.refl _) _ fun H1 e1 => hd H1 e1 _ fun H2 e2 => hk H2 (e1.trans e2) _ fun H3 e3 => ⟨d, _, rfl, DPut.k ((e1.trans (e2.trans e3)) _ _ h) (sz_lt hz), c H3 (e1.trans (e2.trans e3))⟩
theorem ev_lenD {d : Addr} {kvs : List (Key × V)} (hd : Ev ta σ H (.ref d)) (h : H d = some (.dK kvs)) : Ev (tCB (fun xs H Q => ∃ a kvs, xs = [V.ref a] ∧ H a = some (.dK kvs) ∧ Q (.int kvs.length) H) (tCons ta tNil)) σ H (.int (kvs.length : Int)) := fun H1 e Q q =>
  hd H1 e _ fun H2 e2 => ⟨d, kvs, rfl, (e.trans e2) _ _ h, q H2 e2⟩
theorem q_setd {d : Addr} {kvs : List (Key × V)} {k : Key} (h : H d = some (.dK kvs)) (hd : Ev ta σ H (.ref d)) (hk : Ev tb σ H (kV k)) (hx : Ev tx σ H z) (hz : kvs.length < 100000)
    (k1 : ∀ v H1, Ex H H1 → valV kvs k = some v → tz D σ H1) (k2 : ∀ H1, Ex H H1 → valV kvs k = none → tz D σ (upd H1 d (.dK (putK kvs k z)))) : tSeq (tDrop (tDSetd ta tb tx)) tz D σ H :=
  hd H (Ex.refl _) _ fun H1 e1 => ⟨d, rfl, .inl ⟨kvs, .inl (e1 _ _ h)⟩, hk H1 e1 _ fun H2 e2 => hx H2 (e1.trans e2) _ fun H3 e3 =>
    ⟨kvs, k, (e1.trans (e2.trans e3)) _ _ h, rfl, sz_lt hz, fun v hv => k1 v H3 (e1.trans (e2.trans e3)) hv, fun hn => k2 H3 (e1.trans (e2.trans e3)) hn⟩⟩

/-! ### ranges with a step, min, max -/
def rMin2 : List V → Hp → VK → Prop := fun xs H Q => ∃ i j, xs = [.int i, .int j] ∧ Q (.int (if j < i then j else i)) H
theorem ev_min2 {i j : Int} (ha : Ev ta σ H (.int i)) (hb : Ev tb σ H (.int j)) : Ev (tCB rMin2 (tCons ta (tCons tb tNil))) σ H (.int (if j < i then j else i)) := fun H1 e Q q =>
  ha H1 e _ fun H2 e2 => hb H2 (e.trans e2) _ fun H3 e3 => ⟨i, j, rfl, q H3 (e2.trans e3)⟩
theorem rgc_up {j c : Int} (hj : 0 ≤ j) (hj2 : j ≤ 100000) (hc : 0 < c) (hc2 : c ≤ 1000) : RgC 0 j c (Builtin.Range.rangeSize 0 j c).toNat := by
  have hd : 0 ≤ (j - 0 - 1) / c + 1 ∨ j ≤ 0 := by
    by_cases h : j ≤ 0
    · exact .inr h
    · have := Int.ediv_nonneg (a := j - 0 - 1) (b := c) (by omega) (by omega)
      exact .inl (by omega)
  have hd2 : (j - 0 - 1) / c ≤ 100000 := by
    by_cases h : 0 ≤ j - 0 - 1
    · exact Int.le_trans (Int.ediv_le_self c h) (by omega)
    · have : (j - 0 - 1) / c < 0 := Int.ediv_neg_of_neg_of_pos (by omega) hc
      omega
  have hs0 : 0 ≤ Builtin.Range.rangeSize 0 j c := by
    unfold Builtin.Range.rangeSize
    rw [if_pos hc]
    split <;> omega
  have hs1 : Builtin.Range.rangeSize 0 j c ≤ 100001 := by
    unfold Builtin.Range.rangeSize
    rw [if_pos hc]
    split <;> omega
  have fits : ∀ z : Int, -1000000 ≤ z → z ≤ 1000000 → Builtin.Range.rangeFitsLong z = true := fun z h1 h2 => by
    unfold Builtin.Range.rangeFitsLong
    simp only [Bool.and_eq_true, decide_eq_true_eq]
    omega
  refine ⟨by omega, by omega, ?_, by omega⟩
  unfold Builtin.Range.small
  rw [fits 0 (by decide) (by decide), fits j (by omega) (by omega), fits c (by omega) (by omega), fits _ (by omega) (by omega), if_pos hc, fits (j + (c - 1)) (by omega) (by omega)]
  simp
theorem rgc_lt {j c : Int} {i : Nat} (hc : 0 < c) (hi : i < (Builtin.Range.rangeSize 0 j c).toNat) : (i : Int) * c < j := by
  unfold Builtin.Range.rangeSize at hi
  rw [if_pos hc] at hi
  split at hi
  · have h1 : (i : Int) ≤ (j - 0 - 1) / c := by omega
    have h2 : (i : Int) * c ≤ (j - 0 - 1) / c * c := Int.mul_le_mul_of_nonneg_right h1 (by omega)
    have h3 : (j - 0 - 1) / c * c ≤ j - 0 - 1 := Int.ediv_mul_le _ (by omega)
    omega
  · simp at hi
theorem q_forR3 {ta : TA} {j : Nat} {n c : Int} (h : EvA ta σ H [.int 0, .int n, .int c]) (hn : 0 ≤ n ∧ n ≤ 100000) (hc : 0 < c ∧ c ≤ 1000) (Pv : Nat → L2.St → Hp → Prop) (h0 : ∀ H1, Ex H H1 → Pv 0 σ H1)
    (hs : ∀ (i : Nat) σ' H', (i : Int) * c < n → Pv i σ' H' → tu { D with nx := Pv (i + 1), ct := Pv (i + 1), bk := tz D } (σ'.set j (some (.int ((i : Int) * c)))) H') (hd : ∀ i σ' H', Pv i σ' H' → tz D σ' H') : tSeq (tFor (iRng3 ta) (gName j) tu) tz D σ H :=
  h H (Ex.refl _) _ fun H1 e1 => ⟨0, n, c, _, rfl, rgc_up hn.1 hn.2 hc.1 hc.2, for_rangeC (D := { D with nx := tz D }) Pv (h0 H1 e1) (fun i σ' H' hi hP => by
    have e : (0 : Int) + (i : Nat) * c = (i : Int) * c := Int.zero_add _
    show tu _ (σ'.set j (some (.int ((0 : Int) + (i : Nat) * c)))) H'
    rw [e]
    exact hs i σ' H' (rgc_lt hc.1 hi) hP) (fun σ' H' hP => hd _ σ' H' hP)⟩
/-- a call that ends a reading: its arguments evaluate, then its promise -/
theorem rd_call {sp : Sp} {vs : List V} {E : XK} {ta : TA} {Q : VK} (h : EvA ta σ H vs) (k : ∀ H1, Ex H H1 → sp (vs ++ []) H1 Q E) : tCall sp [] E ta σ H Q := h H (Ex.refl _) _ fun H1 e1 => k H1 e1
end
/-! ### what evaluates to data -/
mutual
theorem dp_mono {K : PySem.W.Frag} {H H' : Hp} (e : Ex H H') : ∀ {v : V} {d : PyData}, Dp K H v d → Dp K H' v d
  | _, _, .non => .non
  | _, _, .bl b => .bl b
  | _, _, .int i => .int i
  | _, _, .str x => .str x
  | _, _, .lst h r => .lst (ex_l e h) (dpA_mono e r)
  | _, _, .tup h r => .tup (ex_t e h) (dpA_mono e r)
theorem dpA_mono {K : PySem.W.Frag} {H H' : Hp} (e : Ex H H') : ∀ {vs : List V} {ds : List PyData}, DpAll K H vs ds → DpAll K H' vs ds
  | _, _, .nil => .nil
  | _, _, .cons h r => .cons (dp_mono e h) (dpA_mono e r)
end
def EvD (K : PySem.W.Frag) (te : TE) (σ : L2.St) (H : Hp) (d : PyData) : Prop := ∀ H1, Ex H H1 → ∀ Q : VK, (∀ v H2, Ex H1 H2 → Dp K H2 v d → Q v H2) → te σ H1 Q
def EvDA (K : PySem.W.Frag) (ta : TA) (σ : L2.St) (H : Hp) (ds : List PyData) : Prop := ∀ H1, Ex H H1 → ∀ Q : List V → Hp → Prop, (∀ vs H2, Ex H1 H2 → DpAll K H2 vs ds → Q vs H2) → ta σ H1 Q
/-- a list that is tracked -/
def EvDL (K : PySem.W.Frag) (te : TE) (σ : L2.St) (H : Hp) (ds : List PyData) : Prop := ∀ H1, Ex H H1 → ∀ Q : VK, (∀ p vs H2, Ex H1 H2 → H2 p = some (.lst vs) → DpAll K H2 vs ds → Q (.ref p) H2) → te σ H1 Q
section
variable {K : PySem.W.Frag} {σ : L2.St} {H H' : Hp} {ta tb te tx : TE} {t u : TT} {x y z v : V} {r : R2} {D : Ends} {tu tw tz : TS} {g : TG} {d e : PyData} {ds es : List PyData}
theorem dpA_len : ∀ {vs : List V} {ds : List PyData}, DpAll K H vs ds → vs.length = ds.length
  | _, _, .nil => rfl
  | _, _, .cons _ r => by rw [List.length_cons, List.length_cons, dpA_len r]
theorem dpA_app : ∀ {vs ws : List V} {ds es : List PyData}, DpAll K H vs ds → DpAll K H ws es → DpAll K H (vs ++ ws) (ds ++ es)
  | _, _, _, _, .nil, q => q
  | _, _, _, _, .cons h r, q => .cons h (dpA_app r q)
theorem ed_ev (h : Ev te σ H v) (hd : Dp K H v d) : EvD K te σ H d := fun H1 e Q q => h H1 e Q fun H2 e2 => q v H2 e2 (dp_mono (e.trans e2) hd)
theorem ed_int {i : Int} (h : Ev te σ H (.int i)) : EvD K te σ H (.int i) := ed_ev h (.int i)
theorem ed_L {ns : List Int} (h : EvL te σ H (ns.map V.int)) : EvD K te σ H (.list (ns.map .int)) := fun H1 e Q q => h H1 e Q fun p H2 n e2 a => q _ H2 e2 (dp_list (sq_of a))
theorem ed_U {ns : List Int} (h : EvU te σ H (ns.map V.int)) : EvD K te σ H (.tuple (ns.map .int)) := fun H1 e Q q => h H1 e Q fun p H2 n e2 a => q _ H2 e2 (.tup (st_of a) (dp_ints ns))
theorem eda_nil : EvDA K tNil σ H [] := fun H1 e Q q => q [] H1 (Ex.refl _) .nil
theorem eda_cons {tr : TA} (h : EvD K te σ H d) (hr : EvDA K tr σ H ds) : EvDA K (tCons te tr) σ H (d :: ds) := fun H1 e Q q =>
  h H1 e _ fun v H2 e2 hv => hr H2 (e.trans e2) _ fun vs H3 e3 hs => q (v :: vs) H3 (e2.trans e3) (.cons (dp_mono e3 hv) hs)
theorem edl_lst {ta : TA} (h : EvDA K ta σ H ds) (hl : ds.length ≤ 100000) : EvDL K (tLst ta) σ H ds := fun H1 e Q q =>
  h H1 e _ fun vs H2 e2 hs => ⟨sz_of (by rw [dpA_len hs]; exact hl), fun p hp => q p vs _ (e2.trans (Ex.new hp)) upd_same (dpA_mono (Ex.new hp) hs)⟩
theorem EvDL.ed (h : EvDL K te σ H ds) : EvD K te σ H (.list ds) := fun H1 e Q q => h H1 e Q fun p vs H2 e2 hp hs => q _ H2 e2 (.lst (sq_of hp) hs)
theorem ed_tup {ta : TA} (h : EvDA K ta σ H ds) (hl : ds.length ≤ 100000) : EvD K (tTup ta) σ H (.tuple ds) := fun H1 e Q q =>
  h H1 e _ fun vs H2 e2 hs => ⟨sz_of (by rw [dpA_len hs]; exact hl), fun p hp => q _ _ (e2.trans (Ex.new hp)) (.tup (st_of upd_same) (dpA_mono (Ex.new hp) hs))⟩
theorem edl_ev {p : Addr} {vs : List V} (h : Ev te σ H (.ref p)) (hp : H p = some (.lst vs)) (hs : DpAll K H vs ds) : EvDL K te σ H ds := fun H1 e Q q => h H1 e Q fun H2 e2 => q p vs H2 e2 ((e.trans e2) _ _ hp) (dpA_mono (e.trans e2) hs)
theorem edl_L {ns : List Int} (h : EvL te σ H (ns.map V.int)) : EvDL K te σ H (ns.map .int) := fun H1 e Q q => h H1 e Q fun p H2 n e2 a => q p _ H2 e2 a (dp_ints ns)
theorem edl_cat (ha : EvDL K ta σ H ds) (hb : EvDL K tb σ H es) (hl : ds.length + es.length ≤ 100000) : EvDL K (tOp rCat ta tb) σ H (ds ++ es) := fun H1 e Q q =>
  ha H1 e _ fun p vs H2 e2 hp hs => hb H2 (e.trans e2) _ fun p2 ws H3 e3 hp2 hs2 => ⟨p, p2, vs, ws, rfl, rfl, e3 _ _ hp, hp2, sz_of (by rw [dpA_len hs, dpA_len hs2]; exact hl), fun p3 n3 => q p3 (vs ++ ws) _ (e2.trans (e3.trans (Ex.new n3))) upd_same (dpA_mono (Ex.new n3) (dpA_app (dpA_mono e3 hs) hs2))⟩
theorem ev_neD (ha : EvD K ta σ H d) (hb : EvD K tb σ H e) (h1 : SeqAt.shaped d = true) (h2 : SeqAt.shaped e = true) : Ev (tOp (rNeD K) ta tb) σ H (.bl (!PyData.eqv d e)) := fun H1 e1 Q q =>
  ha H1 e1 _ fun v H2 e2 hv => hb H2 (e1.trans e2) _ fun w H3 e3 hw => ⟨d, e, dp_mono e3 hv, hw, h1, h2, q H3 (e2.trans e3)⟩
theorem ev_eqD (ha : EvD K ta σ H d) (hb : EvD K tb σ H e) (h1 : SeqAt.shaped d = true) (h2 : SeqAt.shaped e = true) : Ev (tOp (rEqD K) ta tb) σ H (.bl (PyData.eqv d e)) := fun H1 e1 Q q =>
  ha H1 e1 _ fun v H2 e2 hv => hb H2 (e1.trans e2) _ fun w H3 e3 hw => ⟨d, e, dp_mono e3 hv, hw, h1, h2, q H3 (e2.trans e3)⟩
/-- a call that is handed a new list of ints alone -/
theorem el_callN {sp : Sp} {E : XK} {ns xs : List Int} (h : EvL te σ H (ns.map V.int)) (hs : ∀ p H1, Ex H H1 → H1 p = some (.lst (ns.map V.int)) → SpL sp [.ref p] H1 (xs.map V.int)) : EvL (tCall sp [] E (tCons te tNil)) σ H (xs.map V.int) := fun H1 e Q q =>
  h H1 e _ fun p H2 n e2 a => hs p H2 (e.trans e2) a H2 (Ex.refl _) Q (fun p3 H3 n3 e3 a3 => q p3 H3 (fresh_back e2 n3) (e2.trans e3) a3) E
theorem ev_callN {sp : Sp} {E : XK} {ns : List Int} (h : EvL te σ H (ns.map V.int)) (hs : ∀ p H1, Ex H H1 → H1 p = some (.lst (ns.map V.int)) → SpV sp [.ref p] H1 z) : Ev (tCall sp [] E (tCons te tNil)) σ H z := fun H1 e Q q =>
  h H1 e _ fun p H2 n e2 a => hs p H2 (e.trans e2) a H2 (Ex.refl _) Q (fun H3 e3 => q H3 (e2.trans e3)) E
end
section
variable {X : Cx} {o e f : Expr} {td ty tx : TE} {apos cpos : Pos}
theorem pe_dg2 (hu : X.A.units + 1 < cLine) (ho : PE X o td) (he : PE X e ty) (hf : PE X f tx) (m : M2 X o "get" apos e f cpos := by exact ⟨rfl, rfl, rfl, rfl⟩) : PE X (.Call (.Attribute o "get" apos) [e, f] [] cpos) (tDGet2 td ty tx) := pe_dget2 hu ho he hf m
theorem pe_dsd (ho : PE X o td) (he : PE X e ty) (hf : PE X f tx) (m : M2 X o "setdefault" apos e f cpos := by exact ⟨rfl, rfl, rfl, rfl⟩) : PE X (.Call (.Attribute o "setdefault" apos) [e, f] [] cpos) (tDSetd td ty tx) := pe_dsetd ho he hf m
end
end Oa
namespace Oa
open PySem PySem.Spec PyProof.Rows L2 Evl
def topS (i : Nat) : Stmt := PySem.Challenge.pw_oftenahead_k01_counts.main.body.getD i (.Pass ⟨0, 0, 0, 0⟩)
/-- the built-in names, the module's numbers -/
structure Gs (mg : Str → Option Value) : Prop where
  n_all : mg "all" = none
  n_bool : mg "bool" = none
  n_enumerate : mg "enumerate" = none
  n_int : mg "int" = none
  n_isinstance : mg "isinstance" = none
  n_len : mg "len" = none
  n_list : mg "list" = none
  n_max : mg "max" = none
  n_min : mg "min" = none
  n_range : mg "range" = none
  g_LONGEST : ∃ t, mg "LONGEST" = some (.int 20 t)
section
variable {P : Program} {w : World} {K : PySem.W.Frag} {mg : Str → Option Value} {base : Heap}
/-! ### is_number -/
abbrev st_is_number : Stmt := topS 5
theorem sc_is_number : FnScope ["thing"] ["thing"] (defScope st_is_number) := ⟨rfl, rfl, rfl, by decide +kernel, rfl, by decide +kernel, by decide +kernel⟩

/-- any thing whose type is known -/
def sp_is_number (K : PySem.W.Frag) : Sp := fun vs H Q _ => ∃ (x : V) (m : String) (b1 b2 : Bool), vs = [x] ∧ (∀ H1, Ex H H1 → TyX K H1 x (.type m)) ∧ kitB m "int" = some b1 ∧ kitB m "bool" = some b2 ∧ RetV (.bl (b1 && !b2)) H Q
theorem ev_is_number {K : PySem.W.Frag} {H : Hp} {i : Int} : SpV (sp_is_number K) [.int i] H (.bl true) :=
  spv fun H1 e Q q E => ⟨.int i, "int", true, false, rfl, fun H2 _ => tyx_int i, by decide +kernel, by decide +kernel, q⟩
theorem d_is_number (G : Gs mg) (p : Pl K mg "is_number" st_is_number ["thing"])  : Def P w K mg base CX0 1 "is_number" ["thing"] (sp_is_number K) := by
  refine p.ok (k := 0) sc_is_number (fun vs H Q E h => ?_) (fun f cdv A outer s H vs Q E hr h => ?_)
  · obtain ⟨x, m, b1, b2, rfl, _⟩ := h
    rfl
  · obtain ⟨x, m, b1, b2, rfl, ty, k1, k2, q⟩ := h
    refine ⟨_, (pss_one (ps_ret (pe_and (pe_callB call_isi (by rfl) G.n_isinstance (by decide +kernel) (pa_cons (pv 0) (pa_cons (pe_bltn (v := .ty "int") (by rfl) G.n_int (by decide +kernel) rfl) pa_nil))) (pe_one (pe_not (pe_callB call_isi (by rfl) G.n_isinstance (by decide +kernel) (pa_cons (pv 0) (pa_cons (pe_bltn (v := .ty "bool") (by rfl) G.n_bool (by decide +kernel) rfl) pa_nil)))))))), ?_⟩
    exact s_ret (ev_andV (ev_isi (ea_cons (ev_var rfl) (ea_cons ev_c ea_nil)) (fun H1 e => ty H1 e) k1) fun _ => ev_notV (ev_isi (ea_cons (ev_var rfl) (ea_cons ev_c ea_nil)) (fun H1 e => ty H1 e) k2)) fun H2 e2 => q H2 e2
/-! ### check_row -/
abbrev st_check_row : Stmt := topS 6
theorem sc_check_row : FnScope ["row", "sign"] ["row"] (defScope st_check_row) := ⟨rfl, rfl, rfl, by decide +kernel, rfl, by decide +kernel, by decide +kernel⟩

def sp_check_row (K : PySem.W.Frag) : Sp := fun vs H Q _ => ∃ (a : Addr) (ns : List Int), vs = [.ref a] ∧ SqL K H a (ns.map V.int) ∧ ns.length ≤ 20 ∧ RetV .non H Q
theorem ev_check_row {K : PySem.W.Frag} {H : Hp} {a : Addr} {ns : List Int} (h : SqL K H a (ns.map V.int)) (hl : ns.length ≤ 20) : SpV (sp_check_row K) [.ref a] H .non :=
  spv fun H1 e Q q E => ⟨a, ns, rfl, ex_l e h, hl, q⟩
theorem d_check_row (G : Gs mg) (p : Pl K mg "check_row" st_check_row ["row"]) (D_is_number : Def P w K mg base CX0 1 "is_number" ["thing"] (sp_is_number K)) : Def P w K mg base CX0 2 "check_row" ["row"] (sp_check_row K) := by
  refine p.ok (k := 1) sc_check_row (fun vs H Q E h => ?_) (fun f cdv A outer s H vs Q E hr h => ?_)
  · obtain ⟨a, ns, rfl, _⟩ := h
    rfl
  · obtain ⟨a, ns, rfl, hS, hl, q⟩ := h
    refine ⟨_, (pss_one (ps_if (PW.pt (pw_or (pt_not (pt_val (pe_callB call_isi (by rfl) G.n_isinstance (by decide +kernel) (pa_cons (pv 0) (pa_cons (pe_bltn (v := .ty "list") (by rfl) G.n_list (by decide +kernel) rfl) pa_nil))))) (pw_or (pt_cmpR op_gt (pe_callB call_len_seq (by rfl) G.n_len (by decide +kernel) (pa_cons (pv 0) pa_nil)) (pe_glob (v := .int 20) (by rfl) G.g_LONGEST.choose_spec ⟨_, rfl⟩) (nomark _)) (pw_or1 (pt_not (pt_val (pe_callB (cr_all rfl) (by rfl) G.n_all (by decide +kernel) (pa_cons (pe_lc (own := [("sign", 1)]) (g := (gName 1)) (tt := tYes) (te := (tCall (sp_is_number K) [] _ (tCons (tVar 1) tNil))) rfl sc_check_row.nd (pi_list (pv 0)) (blkOk_by (own := [("sign", 1)]) (N := ["row", "sign"]) (sc := defScope st_check_row) (by decide +kernel)) (fun _ _ _ _ _ => (pg_name (i := 1) sc_check_row.nd rfl (.inl rfl))) (fun _ _ _ _ _ => pts_nil) (fun _ _ _ _ _ => (pe_fn D_is_number (by decide) hr (by rfl) pass0 (pa_cons (pv 1) pa_nil)))) pa_nil))))))))
      (pss_one ps_never)
      pss_nil)), ?_⟩
    refine s_when (b := false) (et_is (et_or (a := false) (et_not (a := true) (et_B (ev_isi (ea_cons (ev_var rfl) (ea_cons ev_c ea_nil)) (fun H1 e => tyx_list (ex_l e hS)) (by decide +kernel)))) fun _ => et_or (a := false) (et_is (et_test (ev_op (ev_len (ev_var rfl) hS) ev_c rv_I0)) ?_) fun _ => et_not (a := true) (et_B ?_)) rfl) (fun hb => nomatch hb) fun _ H1 e1 => q H1 e1
    · rw [List.length_map]; exact decide_eq_false (by omega)
    · exact ev_allL (ev_var rfl) hS (by rw [List.length_map]; omega) (fun x => rfl) fun i x H1 e hi => by
        obtain ⟨n, _, rfl⟩ := int_at hi
        exact ev_call (ea_cons (ev_var rfl) ea_nil) ev_is_number
/-! ### counts_of -/
abbrev st_counts_of : Stmt := topS 7
theorem sc_counts_of : FnScope ["row", "place", "sign"] ["row"] (defScope st_counts_of) := ⟨rfl, rfl, rfl, by decide +kernel, rfl, by decide +kernel, by decide +kernel⟩

def sp_counts_of (K : PySem.W.Frag) : Sp := fun vs H Q _ => ∃ (a : Addr) (ns : List Int), vs = [.ref a] ∧ SqL K H a (ns.map V.int) ∧ ns.length ≤ 1000 ∧ RetL ((countsF ns).map V.int) H Q
theorem el_counts_of {K : PySem.W.Frag} {H : Hp} {a : Addr} {ns : List Int} (h : SqL K H a (ns.map V.int)) (hl : ns.length ≤ 1000) : SpL (sp_counts_of K) [.ref a] H ((countsF ns).map V.int) :=
  spl fun H1 e Q q E => ⟨a, ns, rfl, ex_l e h, hl, q⟩
theorem d_counts_of (G : Gs mg) (p : Pl K mg "counts_of" st_counts_of ["row"])  : Def P w K mg base CX0 1 "counts_of" ["row"] (sp_counts_of K) := by
  refine p.ok (k := 0) sc_counts_of (fun vs H Q E h => ?_) (fun f cdv A outer s H vs Q E hr h => ?_)
  · obtain ⟨a, ns, rfl, _⟩ := h
    rfl
  · obtain ⟨a, ns, rfl, hS, hl, q⟩ := h
    refine ⟨_, (pss_one (ps_ret (pe_lc (own := [("place", 1), ("sign", 2)]) (g := (gTup K 2 (gCons (gName 1) (gCons (gName 2) gNil)))) (tt := tYes) (te := (tBM K "list" (rCntI K) (tSl (rSlL K) (tVar 0) tNoPart (tPart (tVar 1))) (tCons (tVar 2) tNil))) rfl sc_counts_of.nd (pi_enum (by rfl) G.n_enumerate (pa_cons (pv 0) pa_nil)) (blkOk_by (own := [("place", 1), ("sign", 2)]) (N := ["row", "place", "sign"]) (sc := defScope st_counts_of) (by decide +kernel)) (fun _ _ _ _ _ => (pg_tup rfl (pgs_cons (pg_name (i := 1) sc_counts_of.nd rfl (.inl rfl)) (pgs_cons (pg_name (i := 2) sc_counts_of.nd rfl (.inl rfl)) pgs_nil)))) (fun _ _ _ _ _ => pts_nil) (fun _ _ _ _ _ => (pe_bm PySem.F.plainAttrs_list PySem.F.slot_list_count PySem.F.type_list_count mt_lcount (pe_slice sl_list (pv 0) po_none (po_some (pv 1))) (pa_cons (pv 2) pa_nil)))))), ?_⟩
    refine s_retL (xs := (countsF ns).map V.int) (el_is (el_lcE (fun _ => true) (fun i => .int (((ns.take i).count (ns.getD i 0) : Nat) : Int)) (ev_var rfl) hS (by rw [List.length_map]; omega) (fun x y => rfl) (fun _ _ _ _ _ => et_yes) fun i x H1 e hi _ => ?_) ?_) fun p H1 np e1 hp => q p H1 np e1 hp
    · obtain ⟨n, hn, rfl⟩ := int_at hi
      have e2 : ns.getD i 0 = n := by rw [List.getD_eq_getElem?_getD, hn]; rfl
      rw [e2]
      exact ev_countL (el_is (el_sl (ev_var rfl) eo_none (eo_some (ev_var rfl)) (ex_l e hS)) (cut_to ns i)) (ev_var rfl)
    · rw [given_all, List.length_map]
      unfold countsF
      rw [List.map_map]
      rfl
/-! ### counts -/
abbrev st_counts : Stmt := topS 8
theorem sc_counts : FnScope ["row"] ["row"] (defScope st_counts) := ⟨rfl, rfl, rfl, by decide +kernel, rfl, by decide +kernel, by decide +kernel⟩

def sp_counts (K : PySem.W.Frag) : Sp := fun vs H Q _ => ∃ (a : Addr) (ns : List Int), vs = [.ref a] ∧ SqL K H a (ns.map V.int) ∧ ns.length ≤ 20 ∧ RetL ((countsF ns).map V.int) H Q
theorem el_counts {K : PySem.W.Frag} {H : Hp} {a : Addr} {ns : List Int} (h : SqL K H a (ns.map V.int)) (hl : ns.length ≤ 20) : SpL (sp_counts K) [.ref a] H ((countsF ns).map V.int) :=
  spl fun H1 e Q q E => ⟨a, ns, rfl, ex_l e h, hl, q⟩
theorem d_counts (G : Gs mg) (p : Pl K mg "counts" st_counts ["row"]) (D_check_row : Def P w K mg base CX0 2 "check_row" ["row"] (sp_check_row K)) (D_counts_of : Def P w K mg base CX0 1 "counts_of" ["row"] (sp_counts_of K)) : Def P w K mg base CX0 3 "counts" ["row"] (sp_counts K) := by
  refine p.ok (k := 2) sc_counts (fun vs H Q E h => ?_) (fun f cdv A outer s H vs Q E hr h => ?_)
  · obtain ⟨a, ns, rfl, _⟩ := h
    rfl
  · obtain ⟨a, ns, rfl, hS, hl, q⟩ := h
    refine ⟨_, (pss_cons (ps_expr (pe_fn D_check_row (by decide) hr (by rfl) pass0 (pa_cons (pv 0) pa_nil)))
      (pss_one (ps_ret (pe_fn D_counts_of (by decide) hr (by rfl) pass0 (pa_cons (pv 0) pa_nil))))), ?_⟩
    refine q_drop (ev_call (ea_cons (ev_var rfl) ea_nil) (ev_check_row hS hl)) fun H1 e1 => ?_
    exact s_retL (el_call (ea_cons (ev_var rfl) ea_nil) (el_counts_of (ex_l e1 hS) (by omega))) fun p H2 np e2 hp => q p H2 (fresh_back e1 np) (e1.trans e2) hp
/-! ### pattern -/
abbrev st_pattern : Stmt := topS 9
theorem sc_pattern : FnScope ["row", "known", "sign"] ["row"] (defScope st_pattern) := ⟨rfl, rfl, rfl, by decide +kernel, rfl, by decide +kernel, by decide +kernel⟩

def sp_pattern (K : PySem.W.Frag) : Sp := fun vs H Q _ => ∃ (a : Addr) (ns : List Int), vs = [.ref a] ∧ SqL K H a (ns.map V.int) ∧ ns.length ≤ 20 ∧ RetL ((patternF ns).map V.int) H Q
theorem el_pattern {K : PySem.W.Frag} {H : Hp} {a : Addr} {ns : List Int} (h : SqL K H a (ns.map V.int)) (hl : ns.length ≤ 20) : SpL (sp_pattern K) [.ref a] H ((patternF ns).map V.int) :=
  spl fun H1 e Q q E => ⟨a, ns, rfl, ex_l e h, hl, q⟩
theorem d_pattern (G : Gs mg) (p : Pl K mg "pattern" st_pattern ["row"]) (D_check_row : Def P w K mg base CX0 2 "check_row" ["row"] (sp_check_row K)) : Def P w K mg base CX0 3 "pattern" ["row"] (sp_pattern K) := by
  refine p.ok (k := 2) sc_pattern (fun vs H Q E h => ?_) (fun f cdv A outer s H vs Q E hr h => ?_)
  · obtain ⟨a, ns, rfl, _⟩ := h
    rfl
  · obtain ⟨a, ns, rfl, hS, hl, q⟩ := h
    refine ⟨_, (pss_cons (ps_expr (pe_fn D_check_row (by decide) hr (by rfl) pass0 (pa_cons (pv 0) pa_nil)))
      (pss_cons (ps_set (i := 1) sc_pattern.nd rfl (.inr rfl) (pe_lst pa_nil))
      (pss_cons (ps_for PassesOwn.never rfl (pi_list (pv 0)) (pg_name (i := 2) sc_pattern.nd rfl (.inl rfl))
      (pss_one (ps_if (pt_cmpR op_notIn_seq (pv 2) (pv 1) (by rfl))
      (pss_one (ps_expr (pe_bm PySem.F.plainAttrs_list PySem.F.slot_list_append PySem.F.type_list_append mt_append (pv 1) (pa_cons (pv 2) pa_nil))))
      pss_nil)))
      (pss_one (ps_ret (pe_lc (own := [("sign", 2)]) (g := (gName 2)) (tt := tYes) (te := (tBM K "list" (rIndex K) (tVar 1) (tCons (tVar 2) tNil))) rfl sc_pattern.nd (pi_list (pv 0)) (blkOk_by (own := [("sign", 2)]) (N := ["row", "known", "sign"]) (sc := defScope st_pattern) (by decide +kernel)) (fun _ _ _ _ _ => (pg_name (i := 2) sc_pattern.nd rfl (.inl rfl))) (fun _ _ _ _ _ => pts_nil) (fun _ _ _ _ _ => (pe_bm PySem.F.plainAttrs_list PySem.F.slot_list_index PySem.F.type_list_index mt_index (pv 1) (pa_cons (pv 2) pa_nil))))))))), ?_⟩
    refine q_drop (ev_call (ea_cons (ev_var rfl) ea_nil) (ev_check_row hS hl)) fun H1 e1 => ?_
    refine q_asgL (xs := []) (el_lst ea_nil (by decide)) fun l H2 nl e2 hl2 => ?_
    refine q_forLn (ev_var rfl) (ex_l (e1.trans e2) hS) (fun i σ' H' => ∃ y2, σ' = [some (.ref a), some (.ref l), y2] ∧ Ex H1 H' ∧ H' l = some (.lst ((firsts [] (ns.take i)).map V.int)))
      (fun H3 e3 => ⟨none, rfl, e2.trans e3, e3 _ _ hl2⟩) (fun i σ' H' _ hP => by obtain ⟨_, _, eH, _⟩ := hP; exact ex_l (e1.trans eH) hS) (fun i x σ' H' hi hP => ?_) (fun σ' H' hP => ?_)
    · obtain ⟨y2, rfl, eH, hl'⟩ := hP
      obtain ⟨n, hn, rfl⟩ := int_at hi
      have hi' : i < ns.length := (List.getElem?_eq_some_iff.mp hn).1
      have es : firsts [] (ns.take (i + 1)) = if n ∈ firsts [] (ns.take i) then firsts [] (ns.take i) else firsts [] (ns.take i) ++ [n] := by
        rw [List.take_add_one, hn]
        exact firsts_snoc [] _ n
      have hlen := firsts_len [] (ns.take i)
      rw [List.length_take] at hlen
      have hlen' : (firsts [] (ns.take i)).length ≤ 20 := by simp at hlen; omega
      refine s_when (et_test (ev_op (ev_var rfl) (ev_var rfl) (rv_niL (sq_of hl') rfl (flat_ints _)))) (fun hb H3 e3 => ?_) (fun hb H3 e3 => ?_)
      · rw [in_ints] at hb
        have hb' : n ∉ firsts [] (ns.take i) := by simpa using hb
        refine s_app (e3 _ _ hl') (ev_var rfl) (ev_var rfl) (by rw [List.length_map]; omega) fun H4 e4 => ⟨_, rfl, (eH.trans (e3.trans e4)).mut nl, ?_⟩
        rw [upd_same, es, if_neg hb', List.map_append]
        rfl
      · rw [in_ints] at hb
        have hb' : n ∈ firsts [] (ns.take i) := by simpa using hb
        refine ⟨_, rfl, eH.trans e3, ?_⟩
        rw [e3 _ _ hl', es, if_pos hb']
    · obtain ⟨y2, rfl, eH, hl'⟩ := hP
      rw [List.length_map, List.take_length] at hl'
      refine s_retL (xs := (patternF ns).map V.int) (el_is (el_lcL (fun _ => true) (fun i => .int (((firsts [] ns).idxOf (ns.getD i 0) : Nat) : Int)) (ev_var rfl) (ex_l (e1.trans eH) hS) (by rw [List.length_map]; omega) (fun x => rfl) (fun _ _ _ _ _ => et_yes) fun i x H3 e3 hi _ => ?_) ?_) fun p H3 np e3 hp => q p H3 (fresh_back (e1.trans eH) np) ((e1.trans eH).trans e3) hp
      · obtain ⟨n, hn, rfl⟩ := int_at hi
        have e4 : ns.getD i 0 = n := by rw [List.getD_eq_getElem?_getD, hn]; rfl
        rw [e4]
        exact ev_index (ev_var rfl) (sq_of (e3 _ _ hl')) (ev_var rfl) ((firsts_mem [] ns n).mpr (.inr (List.mem_of_getElem? hn)))
      · rw [given_all, List.length_map]
        unfold patternF
        rw [List.map_map]
        exact map_getD (fun s => V.int (((firsts [] ns).idxOf s : Nat) : Int)) ns
/-! ### _law_cell_at -/
abbrev st_L_cell_at : Stmt := topS 11
theorem sc_L_cell_at : FnScope ["_law_script", "_law_k"] ["_law_script", "_law_k"] (defScope st_L_cell_at) := ⟨rfl, rfl, rfl, by decide +kernel, rfl, by decide +kernel, by decide +kernel⟩

def sp_L_cell_at (K : PySem.W.Frag) : Sp := fun vs H Q _ => ∃ (a : Addr) (ns : List Int) (k : Nat), vs = [.ref a, .int (k : Int)] ∧ SqL K H a (ns.map V.int) ∧ RetV (.int (cellAt ns k)) H Q
theorem ev_cell_at {K : PySem.W.Frag} {H : Hp} {a : Addr} {ns : List Int} {k : Nat} (h : SqL K H a (ns.map V.int)) : SpV (sp_L_cell_at K) [.ref a, .int (k : Int)] H (.int (cellAt ns k)) :=
  spv fun H1 e Q q E => ⟨a, ns, k, rfl, ex_l e h, q⟩
theorem d_L_cell_at (G : Gs mg) (p : Pl K mg "_law_cell_at" st_L_cell_at ["_law_script", "_law_k"])  : Def P w K mg base CX0 1 "_law_cell_at" ["_law_script", "_law_k"] (sp_L_cell_at K) := by
  refine p.ok (k := 0) sc_L_cell_at (fun vs H Q E h => ?_) (fun f cdv A outer s H vs Q E hr h => ?_)
  · obtain ⟨a, ns, k, rfl, _⟩ := h
    rfl
  · obtain ⟨a, ns, k, rfl, hS, q⟩ := h
    refine ⟨_, (pss_cons (ps_if (pt_cmpR op_lt (pv 1) (pe_callB call_len_seq (by rfl) G.n_len (by decide +kernel) (pa_cons (pv 0) pa_nil)) (nomark _))
      (pss_one (ps_ret (pe_ix ix_list (pv 0) (pv 1) (fun _ _ => rfl))))
      pss_nil)
      (pss_one (ps_ret pe_int))), ?_⟩
    refine q_when (b := decide ((k : Int) < ((ns.map V.int).length : Int))) (et_test (ev_op (ev_var rfl) (ev_len (ev_var rfl) hS) rv_I0)) (fun hb H1 e1 => ?_) (fun hb H1 e1 => ?_)
    · have hk : k < ns.length := by
        have := of_decide_eq_true hb
        rw [List.length_map] at this
        omega
      refine s_ret (ev_op (ev_var rfl) (ev_var rfl) (rv_ixL (ex_l e1 hS) (v := .int (cellAt ns k)) ?_)) fun H2 e2 => q H2 (e1.trans e2)
      refine atI_nat ?_
      rw [List.getElem?_map, List.getElem?_eq_getElem hk]
      unfold cellAt
      rw [List.getD_eq_getElem?_getD, List.getElem?_eq_getElem hk]
      rfl
    · refine s_ret ev_c fun H2 e2 => ?_
      have hk : ns.length ≤ k := by
        have := of_decide_eq_false hb
        rw [List.length_map] at this
        omega
      have e : cellAt ns k = 0 := by
        unfold cellAt
        rw [List.getD_eq_getElem?_getD, List.getElem?_eq_none hk]
        rfl
      rw [e] at q
      exact q H2 (e1.trans e2)
/-! ### _law_draw -/
abbrev st_L_draw : Stmt := topS 12
theorem sc_L_draw : FnScope ["_law_cell", "_law_k", "_law_most", "_law_primes"] ["_law_cell", "_law_k", "_law_most"] (defScope st_L_draw) := ⟨rfl, rfl, rfl, by decide +kernel, rfl, by decide +kernel, by decide +kernel⟩

def sp_L_draw (K : PySem.W.Frag) : Sp := fun vs H Q _ => ∃ (c : Int) (k : Nat) (m : Int), vs = [.int c, .int (k : Int), .int m] ∧ 0 < m ∧ RetV (.int (drawF c k m)) H Q
theorem ev_draw {K : PySem.W.Frag} {H : Hp} {c : Int} {k : Nat} {m : Int} (h : 0 < m) : SpV (sp_L_draw K) [.int c, .int (k : Int), .int m] H (.int (drawF c k m)) :=
  spv fun H1 e Q q E => ⟨c, k, m, rfl, h, q⟩
theorem prime_at (k : Nat) : atI (primes.map V.int) ((k : Int) % 16) = some (.int (primes.getD (k % 16) 1)) := by
  have e : ((k : Int) % 16) = ((k % 16 : Nat) : Int) := by omega
  rw [e]
  have h : k % 16 < primes.length := by show k % 16 < 16; omega
  refine atI_nat ?_
  rw [List.getElem?_map, List.getElem?_eq_getElem h, List.getD_eq_getElem?_getD, List.getElem?_eq_getElem h]
  rfl
theorem prime_pos (k : Nat) : 0 < primes.getD (k % 16) 1 := by
  have h : k % 16 < primes.length := by show k % 16 < 16; omega
  have a : ∀ x ∈ primes, (0 : Int) < x := by decide
  rw [List.getD_eq_getElem?_getD, List.getElem?_eq_getElem h]
  exact a _ (List.getElem_mem h)
theorem d_L_draw (G : Gs mg) (p : Pl K mg "_law_draw" st_L_draw ["_law_cell", "_law_k", "_law_most"])  : Def P w K mg base CX0 1 "_law_draw" ["_law_cell", "_law_k", "_law_most"] (sp_L_draw K) := by
  refine p.ok (k := 0) sc_L_draw (fun vs H Q E h => ?_) (fun f cdv A outer s H vs Q E hr h => ?_)
  · obtain ⟨c, k, m, rfl, _⟩ := h
    rfl
  · obtain ⟨c, k, m, rfl, hm, q⟩ := h
    refine ⟨_, (pss_cons (ps_set (i := 3) sc_L_draw.nd rfl (.inl rfl) (pe_tup (pa_cons pe_int (pa_cons pe_int (pa_cons pe_int (pa_cons pe_int (pa_cons pe_int (pa_cons pe_int (pa_cons pe_int (pa_cons pe_int (pa_cons pe_int (pa_cons pe_int (pa_cons pe_int (pa_cons pe_int (pa_cons pe_int (pa_cons pe_int (pa_cons pe_int (pa_cons pe_int pa_nil))))))))))))))))))
      (pss_one (ps_ret (pe_op op_mod (pe_op op_mod (pe_op op_add (pe_op op_mul (pv 0) pe_int) (pe_op op_mul (pv 1) pe_int)) (pe_ix ix_tup (pv 3) (pe_op op_mod (pv 1) pe_int) (fun _ _ => rfl))) (pv 2))))), ?_⟩
    refine q_asgU (xs := primes.map V.int) (eu_tup (ea_cons ev_c (ea_cons ev_c (ea_cons ev_c (ea_cons ev_c (ea_cons ev_c (ea_cons ev_c (ea_cons ev_c (ea_cons ev_c (ea_cons ev_c (ea_cons ev_c (ea_cons ev_c (ea_cons ev_c (ea_cons ev_c (ea_cons ev_c (ea_cons ev_c (ea_cons ev_c ea_nil)))))))))))))))) (by decide)) fun p H1 np e1 hp => ?_
    refine s_ret (ev_op (ev_op (ev_op (ev_op (ev_var rfl) ev_c (rv_I (.inr ⟨by decide, by decide⟩))) (ev_op (ev_var rfl) ev_c (rv_I (.inr ⟨by decide, by decide⟩))) rv_I0) (ev_op (ev_var rfl) (ev_op (ev_var rfl) ev_c (rv_I (by decide))) (rv_ixT (st_of hp) (prime_at k))) (rv_I (prime_pos k))) (ev_var rfl) (rv_I hm)) fun H2 e2 => q H2 (e1.trans e2)
/-! ### _law_number -/
abbrev st_L_number : Stmt := topS 13
theorem sc_L_number : FnScope ["_law_cell", "_law_k", "_law_limit"] ["_law_cell", "_law_k", "_law_limit"] (defScope st_L_number) := ⟨rfl, rfl, rfl, by decide +kernel, rfl, by decide +kernel, by decide +kernel⟩

def sp_L_number (K : PySem.W.Frag) : Sp := fun vs H Q _ => ∃ (c : Int) (k : Nat) (m : Int), vs = [.int c, .int (k : Int), .int m] ∧ Fit c ∧ k ≤ 1000 ∧ 0 < m ∧ RetV (.int (numF c k m)) H Q
theorem ev_number {K : PySem.W.Frag} {H : Hp} {c : Int} {k : Nat} {m : Int} (hc : Fit c) (hk : k ≤ 1000) (h : 0 < m) : SpV (sp_L_number K) [.int c, .int (k : Int), .int m] H (.int (numF c k m)) :=
  spv fun H1 e Q q E => ⟨c, k, m, rfl, hc, hk, h, q⟩
theorem div_at (k : Nat) : atI (divs.map V.int) ((k : Int) % 5) = some (.int (divs.getD (k % 5) 1)) := by
  have e : ((k : Int) % 5) = ((k % 5 : Nat) : Int) := by omega
  rw [e]
  have h : k % 5 < divs.length := by show k % 5 < 5; omega
  refine atI_nat ?_
  rw [List.getElem?_map, List.getElem?_eq_getElem h, List.getD_eq_getElem?_getD, List.getElem?_eq_getElem h]
  rfl
theorem div_pos (k : Nat) : CDiv 0 (divs.getD (k % 5) 1) := by
  have h : k % 5 < divs.length := by show k % 5 < 5; omega
  have a : ∀ x ∈ divs, (0 : Int) < x ∧ x < 1073741824 := by decide
  rw [List.getD_eq_getElem?_getD, List.getElem?_eq_getElem h]
  exact a _ (List.getElem_mem h)
theorem num_mul {c : Int} {k : Nat} (hc : Fit c) (hk : k ≤ 1000) : IntMulOk (c + 977 * (k : Int)) (c + 31 * (k : Int) + 5) := by
  obtain ⟨m, h1, h2, h3⟩ := hc
  have a1 := fit_bits (m := m + 1) (by omega) (fit_add h3 (fit_small (d := 977 * (k : Int)) h1 (by omega)))
  have a2 := fit_add h3 (fit_small (d := 31 * (k : Int)) h1 (by omega))
  have a3 := fit_bits (m := m + 1 + 1) (by omega) (fit_add a2 (fit_small (d := 5) (by omega) (by decide)))
  exact mulOk_of a1 a3 (by omega)
theorem d_L_number (G : Gs mg) (p : Pl K mg "_law_number" st_L_number ["_law_cell", "_law_k", "_law_limit"]) (D_L_draw : Def P w K mg base CX0 1 "_law_draw" ["_law_cell", "_law_k", "_law_most"] (sp_L_draw K)) : Def P w K mg base CX0 2 "_law_number" ["_law_cell", "_law_k", "_law_limit"] (sp_L_number K) := by
  refine p.ok (k := 1) sc_L_number (fun vs H Q E h => ?_) (fun f cdv A outer s H vs Q E hr h => ?_)
  · obtain ⟨c, k, m, rfl, _⟩ := h
    rfl
  · obtain ⟨c, k, m, rfl, hc, hk, hm, q⟩ := h
    refine ⟨_, (pss_cons (ps_if (pt_cmpR op_ge (pv 0) (pe_op op_pow pe_int pe_int) (nomark _))
      (pss_one (ps_ret (pe_op op_mod (pe_op op_fdiv (pe_op op_sub (pv 0) (pe_op op_pow pe_int pe_int)) (pe_ix ix_tup (pe_tup (pa_cons pe_int (pa_cons pe_int (pa_cons pe_int (pa_cons pe_int (pa_cons pe_int pa_nil)))))) (pe_op op_mod (pv 1) pe_int) (fun _ _ => rfl))) (pv 2))))
      pss_nil)
      (pss_one (ps_ret (pe_op op_mod (pe_fn D_L_draw (by decide) hr (by rfl) pass0 (pa_cons (pe_op op_mulK (pe_op op_add (pv 0) (pe_op op_mul pe_int (pv 1))) (pe_op op_add (pe_op op_add (pv 0) (pe_op op_mul pe_int (pv 1))) pe_int)) (pa_cons (pe_op op_add (pe_op op_mod (pv 1) pe_int) pe_int) (pa_cons pe_int pa_nil)))) (pv 2))))), ?_⟩
    refine q_when (b := decide ((10 : Int) ^ 18 ≤ c)) (et_test (ev_op (ev_var rfl) (ev_op ev_c ev_c (rv_I ⟨by decide, by decide, by decide⟩)) rv_I0)) (fun hb H1 e1 => ?_) (fun hb H1 e1 => ?_)
    · have hb' := of_decide_eq_true hb
      have e : numF c k m = (c - 10 ^ 18) / (divs.getD (k % 5) 1) % m := by unfold numF; rw [if_pos hb']
      rw [e] at q
      refine s_ret (ev_op (ev_op (ev_op (ev_var rfl) (ev_op ev_c ev_c (rv_I ⟨by decide, by decide, by decide⟩)) rv_I0) (ev_menu (xs := divs.map V.int) (eu_tup (ea_cons ev_c (ea_cons ev_c (ea_cons ev_c (ea_cons ev_c (ea_cons ev_c ea_nil))))) (by decide)) (ev_op (ev_var rfl) ev_c (rv_I (by decide))) (div_at k)) (rv_I (div_pos k))) (ev_var rfl) (rv_I hm)) fun H2 e2 => q H2 (e1.trans e2)
    · have hb' := of_decide_eq_false hb
      have e : numF c k m = drawF ((c + 977 * (k : Int)) * (c + 31 * (k : Int) + 5)) (k % 9 + 1) 999983 % m := by unfold numF; rw [if_neg hb']
      rw [e] at q
      refine s_ret (ev_op (ev_call (ea_cons (ev_op (ev_op (ev_var rfl) (ev_op ev_c (ev_var rfl) (rv_I (.inl ⟨by decide, by decide⟩))) rv_I0) (ev_op (ev_op (ev_var rfl) (ev_op ev_c (ev_var rfl) (rv_I (.inl ⟨by decide, by decide⟩))) rv_I0) ev_c rv_I0) (rv_I (num_mul hc hk))) (ea_cons (ev_is (w := .int ((k % 9 + 1 : Nat) : Int)) (ev_op (ev_op (ev_var rfl) ev_c (rv_I (by decide))) ev_c rv_I0) (by congr 1)) (ea_cons ev_c ea_nil))) (ev_draw (by decide))) (ev_var rfl) (rv_I hm)) fun H2 e2 => q H2 (e1.trans e2)
/-! ### _law_signs -/
abbrev st_L_signs : Stmt := topS 14
theorem sc_L_signs : FnScope ["_law_script", "_law_by", "_law_most", "_law_many", "_law_found", "_law_k", "_law_cell"] ["_law_script", "_law_by", "_law_most", "_law_many"] (defScope st_L_signs) := ⟨rfl, rfl, rfl, by decide +kernel, rfl, by decide +kernel, by decide +kernel⟩

def sp_L_signs (K : PySem.W.Frag) : Sp := fun vs H Q _ => ∃ (a : Addr) (ns : List Int) (b : Nat) (most many : Int), vs = [.ref a, .int (b : Int), .int most, .int many] ∧ SqL K H a (ns.map V.int) ∧ (∀ z ∈ ns, FitS z) ∧ b ≤ 100 ∧ 0 ≤ most ∧ most ≤ 100 ∧ 0 < many ∧ many ≤ 8 ∧ RetL ((signsF ns b most many).map V.int) H Q
theorem el_signs {K : PySem.W.Frag} {H : Hp} {a : Addr} {ns : List Int} {b : Nat} {most many : Int} (h : SqL K H a (ns.map V.int)) (hf : ∀ z ∈ ns, FitS z) (hb : b ≤ 100) (h0 : 0 ≤ most) (h1 : most ≤ 100) (h2 : 0 < many) (h3 : many ≤ 8) :
    SpL (sp_L_signs K) [.ref a, .int (b : Int), .int most, .int many] H ((signsF ns b most many).map V.int) :=
  spl fun H1 e Q q E => ⟨a, ns, b, most, many, rfl, ex_l e h, hf, hb, h0, h1, h2, h3, q⟩
theorem sign_at {i : Int} (h0 : 0 ≤ i) (h1 : i < 8) : atI (signL.map V.int) i = some (.int (signL.getD i.toNat 0)) := by
  have e : i = ((i.toNat : Nat) : Int) := by omega
  rw [e]
  have h : i.toNat < signL.length := by show i.toNat < 8; omega
  refine atI_nat ?_
  rw [List.getElem?_map, List.getElem?_eq_getElem h, List.getD_eq_getElem?_getD]
  simp only [Int.toNat_natCast]
  rw [List.getElem?_eq_getElem h]
  rfl
theorem d_L_signs (G : Gs mg) (p : Pl K mg "_law_signs" st_L_signs ["_law_script", "_law_by", "_law_most", "_law_many"]) (D_L_number : Def P w K mg base CX0 2 "_law_number" ["_law_cell", "_law_k", "_law_limit"] (sp_L_number K)) (D_L_cell_at : Def P w K mg base CX0 1 "_law_cell_at" ["_law_script", "_law_k"] (sp_L_cell_at K)) : Def P w K mg base CX0 3 "_law_signs" ["_law_script", "_law_by", "_law_most", "_law_many"] (sp_L_signs K) := by
  refine p.ok (k := 2) sc_L_signs (fun vs H Q E h => ?_) (fun f cdv A outer s H vs Q E hr h => ?_)
  · obtain ⟨a, ns, b, most, many, rfl, _⟩ := h
    rfl
  · obtain ⟨a, ns, b, most, many, rfl, hS, hf, hb, h0, h1, h2, h3, q⟩ := h
    refine ⟨_, (pss_cons (ps_set (i := 4) sc_L_signs.nd rfl (.inl rfl) (pe_lst pa_nil))
      (pss_cons (ps_for PassesOwn.never rfl (pi_range1 (by rfl) G.n_range (pa_cons (pe_fn D_L_number (by decide) hr (by rfl) pass0 (pa_cons (pe_fn D_L_cell_at (by decide) hr (by rfl) pass0 (pa_cons (pv 0) (pa_cons (pv 1) pa_nil))) (pa_cons (pv 1) (pa_cons (pe_op op_add (pv 2) pe_int) pa_nil)))) pa_nil)) (pg_name (i := 5) sc_L_signs.nd rfl (.inl rfl))
      (pss_cons (ps_set (i := 6) sc_L_signs.nd rfl (.inl rfl) (pe_op op_add (pe_fn D_L_cell_at (by decide) hr (by rfl) pass0 (pa_cons (pv 0) (pa_cons (pe_op op_add (pe_op op_add (pv 1) (pv 5)) pe_int) pa_nil))) (pe_op op_mul pe_int (pv 5))))
      (pss_one (ps_expr (pe_bm PySem.F.plainAttrs_list PySem.F.slot_list_append PySem.F.type_list_append mt_append (pv 4) (pa_cons (pe_ix ix_tup (pe_tup (pa_cons pe_int (pa_cons (pe_un un_neg pe_int) (pa_cons pe_int (pa_cons (pe_op op_pow pe_int pe_int) (pa_cons pe_int (pa_cons (pe_un un_neg pe_int) (pa_cons pe_int (pa_cons pe_int pa_nil))))))))) (pe_fn D_L_number (by decide) hr (by rfl) pass0 (pa_cons (pv 6) (pa_cons (pe_op op_add (pe_op op_add (pv 5) (pv 1)) pe_int) (pa_cons (pv 3) pa_nil)))) (fun _ _ => rfl)) pa_nil))))))
      (pss_one (ps_ret (pv 4))))), ?_⟩
    have hc : ∀ k : Nat, FitS (cellAt ns k) := fun k => fit_cell (by decide) hf k
    refine q_asgL (xs := []) (el_lst ea_nil (by decide)) fun l H1 nl e1 hl => ?_
    refine q_forR1 (n := numF (cellAt ns b) b (most + 1)) (ea_cons (ev_call (ea_cons (ev_call (ea_cons (ev_var rfl) (ea_cons (ev_var rfl) ea_nil)) (ev_cell_at (ex_l e1 hS))) (ea_cons (ev_var rfl) (ea_cons (ev_op (ev_var rfl) ev_c rv_I0) ea_nil))) (ev_number ((hc b).mono (by decide)) (by omega) (by omega))) ea_nil)
      ⟨numF_nn _ _ (by omega), by have := numF_lt (cellAt ns b) b (lim := most + 1) (by omega); omega⟩
      (fun i σ' H' => ∃ y5 y6, σ' = [some (.ref a), some (.int (b : Int)), some (.int most), some (.int many), some (.ref l), y5, y6] ∧ Ex H H' ∧ H' l = some (.lst (((List.range i).map fun k => signL.getD (numF (cellAt ns (b + k + 1) + 31 * (k : Int)) (k + b + 2) many).toNat 0).map V.int)))
      (fun H2 e2 => ⟨none, none, rfl, e1.trans e2, e2 _ _ hl⟩) (fun i σ' H' hi hP => ?_) (fun σ' H' hP => ?_)
    · obtain ⟨y5, y6, rfl, eH, hl'⟩ := hP
      have hn := numF_lt (cellAt ns b) b (lim := most + 1) (by omega)
      refine q_asg (v := .int (cellAt ns (b + i + 1) + 31 * (i : Int))) (ev_op (ev_call (ea_cons (ev_var rfl) (ea_cons (ev_is (w := .int ((b + i + 1 : Nat) : Int)) (ev_op (ev_op (ev_var rfl) (ev_var rfl) rv_I0) ev_c rv_I0) (by congr 1)) ea_nil)) (ev_cell_at (ex_l eH hS))) (ev_op ev_c (ev_var rfl) (rv_I (.inl ⟨by decide, by decide⟩))) rv_I0) fun H2 e2 => ?_
      have hfit : Fit (cellAt ns (b + i + 1) + 31 * (i : Int)) := (FitN.add (hc (b + i + 1)) (by omega)).mono (by decide)
      have hk : i + b + 2 ≤ 1000 := by omega
      have hv0 := numF_nn (cellAt ns (b + i + 1) + 31 * (i : Int)) (i + b + 2) (lim := many) h2
      have hv1 := numF_lt (cellAt ns (b + i + 1) + 31 * (i : Int)) (i + b + 2) (lim := many) h2
      refine s_app (e2 _ _ hl') (ev_var rfl) (ev_menu (xs := signL.map V.int) (eu_tup (ea_cons ev_c (ea_cons (ev_un ev_c ru_neg) (ea_cons ev_c (ea_cons (ev_op ev_c ev_c (rv_I ⟨by decide, by decide, by decide⟩)) (ea_cons ev_c (ea_cons (ev_un ev_c ru_neg) (ea_cons ev_c (ea_cons ev_c ea_nil)))))))) (by decide)) (ev_call (ea_cons (ev_var rfl) (ea_cons (ev_is (w := .int ((i + b + 2 : Nat) : Int)) (ev_op (ev_op (ev_var rfl) (ev_var rfl) rv_I0) ev_c rv_I0) (by congr 1)) (ea_cons (ev_var rfl) ea_nil))) (ev_number hfit hk h2)) (sign_at hv0 (by omega))) ?_ fun H3 e3 => ?_
      · rw [List.length_map, List.length_map, List.length_range]; omega
      · refine ⟨_, _, rfl, (eH.trans (e2.trans e3)).mut nl, ?_⟩
        rw [upd_same, List.range_succ, List.map_append, List.map_append]
        rfl
    · obtain ⟨y5, y6, rfl, eH, hl'⟩ := hP
      exact s_ret (ev_var rfl) fun H2 e2 => q l H2 nl (eH.trans e2) (e2 _ _ hl')
/-! ### _law_counts -/
abbrev st_L_counts : Stmt := topS 15
theorem sc_L_counts : FnScope ["_law_row", "_law_known", "_law_found", "_law_sign"] ["_law_row"] (defScope st_L_counts) := ⟨rfl, rfl, rfl, by decide +kernel, rfl, by decide +kernel, by decide +kernel⟩

def sp_L_counts (K : PySem.W.Frag) : Sp := fun vs H Q _ => ∃ (a : Addr) (ns : List Int), vs = [.ref a] ∧ SqL K H a (ns.map V.int) ∧ ns.length ≤ 1000 ∧ RetL ((countsF ns).map V.int) H Q
theorem el_L_counts {K : PySem.W.Frag} {H : Hp} {a : Addr} {ns : List Int} (h : SqL K H a (ns.map V.int)) (hl : ns.length ≤ 1000) : SpL (sp_L_counts K) [.ref a] H ((countsF ns).map V.int) :=
  spl fun H1 e Q q E => ⟨a, ns, rfl, ex_l e h, hl, q⟩
theorem d_L_counts (G : Gs mg) (p : Pl K mg "_law_counts" st_L_counts ["_law_row"])  : Def P w K mg base CX0 1 "_law_counts" ["_law_row"] (sp_L_counts K) := by
  refine p.ok (k := 0) sc_L_counts (fun vs H Q E h => ?_) (fun f cdv A outer s H vs Q E hr h => ?_)
  · obtain ⟨a, ns, rfl, _⟩ := h
    rfl
  · obtain ⟨a, ns, rfl, hS, hl, q⟩ := h
    refine ⟨_, (pss_cons (ps_par (i := 1) (j := 2) (by rfl) sc_L_counts.nd rfl rfl (by decide) rfl rfl (pa_cons pe_dnewK (pa_cons (pe_lst pa_nil) pa_nil)) (by rfl))
      (pss_cons (ps_for PassesOwn.never rfl (pi_list (pv 0)) (pg_name (i := 3) sc_L_counts.nd rfl (.inl rfl))
      (pss_cons (ps_expr (pe_bm PySem.F.plainAttrs_list PySem.F.slot_list_append PySem.F.type_list_append mt_append (pv 2) (pa_cons (pe_dg2 (hu_of hr) (pv 1) (pv 3) pe_int) pa_nil)))
      (pss_one (ps_dput (hu_of hr) (pv 1) (pv 3) (pe_op op_add (pe_ix ix_list (pv 2) (pe_un un_neg pe_int) (fun _ _ => rfl)) pe_int) rfl))))
      (pss_one (ps_ret (pv 2))))), ?_⟩
    refine fun d nd => ⟨Nat.zero_le _, fun l nl => ⟨_, _, rfl, ?_⟩⟩
    have ndl : d ≠ l := fun e => by rw [e] at nd; subst e; rw [upd_same] at nl; cases nl
    have eHd : Ex H (upd H d (.dK [])) := Ex.new nd
    refine q_forLn (ev_var rfl) (ex_l (eHd.trans (Ex.new nl)) hS) (fun i σ' H' => ∃ y3 kvs, σ' = [some (.ref a), some (.ref d), some (.ref l), y3] ∧ Ex H H' ∧ H' d = some (.dK kvs) ∧ H' l = some (.lst ((countsF (ns.take i)).map V.int)) ∧ kvs.length ≤ i ∧ ∀ s : Int, (valV kvs (.inl s)).getD (.int 0) = .int (((ns.take i).count s : Nat) : Int))
      (fun H3 e3 => ⟨none, [], rfl, (eHd.trans (Ex.new nl)).trans e3, e3 _ _ (by rw [upd_ne ndl, upd_same]), e3 _ _ upd_same, Nat.le_refl _, fun s => rfl⟩)
      (fun i σ' H' _ hP => by obtain ⟨_, _, _, eH, _⟩ := hP; exact ex_l eH hS) (fun i x σ' H' hi hP => ?_) (fun σ' H' hP => ?_)
    · obtain ⟨y3, kvs, rfl, eH, hd', hl', hz, hv⟩ := hP
      obtain ⟨n, hn, rfl⟩ := int_at hi
      have hi' : i < ns.length := (List.getElem?_eq_some_iff.mp hn).1
      have et : ns.take (i + 1) = ns.take i ++ [n] := by rw [List.take_add_one, hn]; rfl
      refine q_app (v := .int (((ns.take i).count n : Nat) : Int)) hl' (ev_var rfl) (ev_is (ev_dget2 (k := .inl n) (ev_var rfl) hd' (ev_var rfl) ev_c) (hv n)) (by rw [List.length_map, countsF_len, List.length_take]; omega) fun H4 e4 => ?_
      have hd4 : (upd H4 l (.lst ((countsF (ns.take i)).map V.int ++ [.int (((ns.take i).count n : Nat) : Int)]))) d = some (.dK kvs) := by rw [upd_ne ndl]; exact e4 _ _ hd'
      refine s_dput (k := .inl n) (v := .int ((((ns.take i).count n : Nat) : Int) + 1)) hd4 (ev_op (ev_op (ev_var rfl) (ev_un ev_c ru_neg) (rv_ixL (v := .int (((ns.take i).count n : Nat) : Int)) (sq_of upd_same) (atI_last _ _))) ev_c rv_I0) (ev_var rfl) (ev_var rfl) (by omega) fun H5 e5 => ?_
      refine ⟨_, _, rfl, ?_, upd_same, ?_, ?_, fun s => ?_⟩
      · refine Ex.mut (Ex.trans ?_ e5) nd
        exact Ex.mut (eH.trans e4) (fresh_back eHd nl)
      · rw [upd_ne ndl.symm, e5 _ _ upd_same, et, countsF_snoc, List.map_append]
        rfl
      · have := length_putK kvs (.inl n) (.int ((((ns.take i).count n : Nat) : Int) + 1)); omega
      · rw [valV_put, et, List.count_append, List.count_singleton]
        by_cases e : s = n
        · subst e
          rw [if_pos rfl]
          simp
        · rw [if_neg (by intro q; exact e (Sum.inl.inj q)), hv s]
          have : (n == s) = false := by simpa using fun q => e q.symm
          rw [this]
          simp
    · obtain ⟨y3, kvs, rfl, eH, hd', hl', hz, hv⟩ := hP
      rw [List.length_map, List.take_length] at hl'
      exact s_ret (ev_var rfl) fun H3 e3 => q l H3 (fresh_back eHd nl) (eH.trans e3) (e3 _ _ hl')
/-! ### _law_pattern -/
abbrev st_L_pattern : Stmt := topS 16
theorem sc_L_pattern : FnScope ["_law_row", "_law_names", "_law_found", "_law_sign"] ["_law_row"] (defScope st_L_pattern) := ⟨rfl, rfl, rfl, by decide +kernel, rfl, by decide +kernel, by decide +kernel⟩

def sp_L_pattern (K : PySem.W.Frag) : Sp := fun vs H Q _ => ∃ (a : Addr) (ns : List Int), vs = [.ref a] ∧ SqL K H a (ns.map V.int) ∧ ns.length ≤ 1000 ∧ RetL ((patternF ns).map V.int) H Q
theorem el_L_pattern {K : PySem.W.Frag} {H : Hp} {a : Addr} {ns : List Int} (h : SqL K H a (ns.map V.int)) (hl : ns.length ≤ 1000) : SpL (sp_L_pattern K) [.ref a] H ((patternF ns).map V.int) :=
  spl fun H1 e Q q E => ⟨a, ns, rfl, ex_l e h, hl, q⟩
/-- the dict of names -/
def NamesOk (kvs : List (Key × V)) (fs : List Int) : Prop := kvs.length = fs.length ∧ ∀ s : Int, valV kvs (.inl s) = if s ∈ fs then some (.int ((fs.idxOf s : Nat) : Int)) else none
theorem NamesOk.put {kvs : List (Key × V)} {fs : List Int} (h : NamesOk kvs fs) {n : Int} (hn : n ∉ fs) : NamesOk (putK kvs (.inl n) (.int (kvs.length : Int))) (fs ++ [n]) := by
  have h0 : valV kvs (.inl n) = none := by rw [h.2 n, if_neg hn]
  refine ⟨by rw [putK_new _ h0, List.length_append, List.length_append, h.1]; rfl, fun s => ?_⟩
  rw [valV_put]
  by_cases e : s = n
  · subst e
    rw [if_pos rfl, if_pos (by simp), h.1]
    congr 3
    have : ∀ l : List Int, s ∉ l → (l ++ [s]).idxOf s = l.length := by
      intro l
      induction l with
      | nil => intro _; simp
      | cons a r ih =>
        intro hs
        have ha : (a == s) = false := by simpa using fun q : a = s => hs (by rw [q]; exact List.mem_cons_self ..)
        rw [List.cons_append, List.idxOf_cons, ha, List.length_cons]
        show (r ++ [s]).idxOf s + 1 = r.length + 1
        rw [ih fun q => hs (List.mem_cons_of_mem _ q)]
    exact (this fs hn).symm
  · rw [if_neg (by intro q; exact e (Sum.inl.inj q)), h.2 s]
    by_cases hs : s ∈ fs
    · rw [if_pos hs, if_pos (List.mem_append_left _ hs), idx_app hs]
    · rw [if_neg hs, if_neg (by simp [hs, e])]
theorem d_L_pattern (G : Gs mg) (p : Pl K mg "_law_pattern" st_L_pattern ["_law_row"])  : Def P w K mg base CX0 1 "_law_pattern" ["_law_row"] (sp_L_pattern K) := by
  refine p.ok (k := 0) sc_L_pattern (fun vs H Q E h => ?_) (fun f cdv A outer s H vs Q E hr h => ?_)
  · obtain ⟨a, ns, rfl, _⟩ := h
    rfl
  · obtain ⟨a, ns, rfl, hS, hl, q⟩ := h
    refine ⟨_, (pss_cons (ps_par (i := 1) (j := 2) (by rfl) sc_L_pattern.nd rfl rfl (by decide) rfl rfl (pa_cons pe_dnewK (pa_cons (pe_lst pa_nil) pa_nil)) (by rfl))
      (pss_cons (ps_for PassesOwn.never rfl (pi_list (pv 0)) (pg_name (i := 3) sc_L_pattern.nd rfl (.inl rfl))
      (pss_cons (ps_expr (pe_dsd (pv 1) (pv 3) (pe_callB call_lenD (by rfl) G.n_len (by decide +kernel) (pa_cons (pv 1) pa_nil))))
      (pss_one (ps_expr (pe_bm PySem.F.plainAttrs_list PySem.F.slot_list_append PySem.F.type_list_append mt_append (pv 2) (pa_cons (pe_dget (hu_of hr) (pv 1) (pv 3) (fun _ _ => rfl)) pa_nil))))))
      (pss_one (ps_ret (pv 2))))), ?_⟩
    refine fun d nd => ⟨Nat.zero_le _, fun l nl => ⟨_, _, rfl, ?_⟩⟩
    have ndl : d ≠ l := fun e => by rw [e] at nd; subst e; rw [upd_same] at nl; cases nl
    have eHd : Ex H (upd H d (.dK [])) := Ex.new nd
    refine q_forLn (ev_var rfl) (ex_l (eHd.trans (Ex.new nl)) hS) (fun i σ' H' => ∃ y3 kvs, σ' = [some (.ref a), some (.ref d), some (.ref l), y3] ∧ Ex H H' ∧ H' d = some (.dK kvs) ∧ H' l = some (.lst ((patternF (ns.take i)).map V.int)) ∧ NamesOk kvs (firsts [] (ns.take i)))
      (fun H3 e3 => ⟨none, [], rfl, (eHd.trans (Ex.new nl)).trans e3, e3 _ _ (by rw [upd_ne ndl, upd_same]), e3 _ _ upd_same, rfl, fun s => rfl⟩)
      (fun i σ' H' _ hP => by obtain ⟨_, _, _, eH, _⟩ := hP; exact ex_l eH hS) (fun i x σ' H' hi hP => ?_) (fun σ' H' hP => ?_)
    · obtain ⟨y3, kvs, rfl, eH, hd', hl', hv⟩ := hP
      obtain ⟨n, hn, rfl⟩ := int_at hi
      have hi' : i < ns.length := (List.getElem?_eq_some_iff.mp hn).1
      have et : ns.take (i + 1) = ns.take i ++ [n] := by rw [List.take_add_one, hn]; rfl
      have hlen := firsts_len [] (ns.take i)
      rw [List.length_take] at hlen
      have hz : kvs.length ≤ i := by rw [hv.1]; simp at hlen; omega
      have key : ∀ (kvs' : List (Key × V)) (H4 : Hp), Ex H H4 → H4 d = some (.dK kvs') → H4 l = some (.lst ((patternF (ns.take i)).map V.int)) → NamesOk kvs' (firsts [] (ns.take (i + 1))) →
          tDrop (tBM K "list" rAppend (tVar 2) (tCons (tDGet (tVar 1) (tVar 3)) tNil)) { nx := fun σ' H' => ∃ y3 kvs, σ' = [some (.ref a), some (.ref d), some (.ref l), y3] ∧ Ex H H' ∧ H' d = some (.dK kvs) ∧ H' l = some (.lst ((patternF (ns.take (i + 1))).map V.int)) ∧ NamesOk kvs (firsts [] (ns.take (i + 1))), rt := Q, bk := fun σ' H' => tRet (tVar 2) { nx := fun _ H' => Q .non H', rt := Q } σ' H', ct := fun σ' H' => ∃ y3 kvs, σ' = [some (.ref a), some (.ref d), some (.ref l), y3] ∧ Ex H H' ∧ H' d = some (.dK kvs) ∧ H' l = some (.lst ((patternF (ns.take (i + 1))).map V.int)) ∧ NamesOk kvs (firsts [] (ns.take (i + 1))) } [some (.ref a), some (.ref d), some (.ref l), some (.int n)] H4 := by
        intro kvs' H4 e4 h4 hl4 hv4
        have hm : n ∈ firsts [] (ns.take (i + 1)) := (firsts_mem [] _ n).mpr (.inr (by rw [et]; simp))
        refine s_app hl4 (ev_var rfl) (ev_dget (k := .inl n) (v := .int (((firsts [] (ns.take (i + 1))).idxOf n : Nat) : Int)) (ev_var rfl) h4 (ev_var rfl) (by rw [hv4.2 n, if_pos hm])) (by rw [List.length_map, patternF_len, List.length_take]; omega) fun H5 e5 => ?_
        refine ⟨_, _, rfl, Ex.mut (e4.trans e5) (fresh_back eHd nl), by rw [upd_ne ndl]; exact e5 _ _ h4, ?_, hv4⟩
        rw [upd_same, et, patternF_snoc, List.map_append]
        rfl
      have es : firsts [] (ns.take (i + 1)) = if n ∈ firsts [] (ns.take i) then firsts [] (ns.take i) else firsts [] (ns.take i) ++ [n] := by
        rw [et]; exact firsts_snoc [] _ n
      refine q_setd (k := .inl n) (z := .int (kvs.length : Int)) hd' (ev_var rfl) (ev_var rfl) (ev_lenD (ev_var rfl) hd') (by omega) (fun v H4 e4 hv4 => ?_) (fun H4 e4 hv4 => ?_)
      · have hm : n ∈ firsts [] (ns.take i) := by
          refine Classical.byContradiction fun hc => ?_
          rw [hv.2 n, if_neg hc] at hv4
          cases hv4
        refine key kvs H4 (eH.trans e4) (e4 _ _ hd') (e4 _ _ hl') ?_
        rw [es, if_pos hm]
        exact hv
      · have hm : n ∉ firsts [] (ns.take i) := fun hc => by
          rw [hv.2 n, if_pos hc] at hv4
          cases hv4
        refine key _ _ (Ex.mut (eH.trans e4) nd) upd_same (by rw [upd_ne ndl.symm]; exact e4 _ _ hl') ?_
        rw [es, if_neg hm]
        exact hv.put hm
    · obtain ⟨y3, kvs, rfl, eH, hd', hl', hv⟩ := hP
      rw [List.length_map, List.take_length] at hl'
      exact s_ret (ev_var rfl) fun H3 e3 => q l H3 (fresh_back eHd nl) (eH.trans e3) (e3 _ _ hl')
/-! ### _law_whole -/
abbrev st_L_whole : Stmt := topS 17
theorem sc_L_whole : FnScope ["_law_found"] ["_law_found"] (defScope st_L_whole) := ⟨rfl, rfl, rfl, by decide +kernel, rfl, by decide +kernel, by decide +kernel⟩

/-- any thing whose type is known -/
def sp_L_whole (K : PySem.W.Frag) : Sp := fun vs H Q _ => ∃ (x : V) (m : String) (b1 b2 : Bool), vs = [x] ∧ (∀ H1, Ex H H1 → TyX K H1 x (.type m)) ∧ kitB m "int" = some b1 ∧ kitB m "bool" = some b2 ∧ RetV (.bl (b1 && !b2)) H Q
theorem ev_whole {K : PySem.W.Frag} {H : Hp} {i : Int} : SpV (sp_L_whole K) [.int i] H (.bl true) :=
  spv fun H1 e Q q E => ⟨.int i, "int", true, false, rfl, fun H2 _ => tyx_int i, by decide +kernel, by decide +kernel, q⟩
theorem d_L_whole (G : Gs mg) (p : Pl K mg "_law_whole" st_L_whole ["_law_found"])  : Def P w K mg base CX0 1 "_law_whole" ["_law_found"] (sp_L_whole K) := by
  refine p.ok (k := 0) sc_L_whole (fun vs H Q E h => ?_) (fun f cdv A outer s H vs Q E hr h => ?_)
  · obtain ⟨x, m, b1, b2, rfl, _⟩ := h
    rfl
  · obtain ⟨x, m, b1, b2, rfl, ty, k1, k2, q⟩ := h
    refine ⟨_, (pss_one (ps_ret (pe_and (pe_callB call_isi (by rfl) G.n_isinstance (by decide +kernel) (pa_cons (pv 0) (pa_cons (pe_bltn (v := .ty "int") (by rfl) G.n_int (by decide +kernel) rfl) pa_nil))) (pe_one (pe_not (pe_callB call_isi (by rfl) G.n_isinstance (by decide +kernel) (pa_cons (pv 0) (pa_cons (pe_bltn (v := .ty "bool") (by rfl) G.n_bool (by decide +kernel) rfl) pa_nil)))))))), ?_⟩
    exact s_ret (ev_andV (ev_isi (ea_cons (ev_var rfl) (ea_cons ev_c ea_nil)) (fun H1 e => ty H1 e) k1) fun _ => ev_notV (ev_isi (ea_cons (ev_var rfl) (ea_cons ev_c ea_nil)) (fun H1 e => ty H1 e) k2)) fun H2 e2 => q H2 e2
/-! ### _law_is_row -/
abbrev st_L_is_row : Stmt := topS 18
theorem sc_L_is_row : FnScope ["_law_found", "_law_one"] ["_law_found"] (defScope st_L_is_row) := ⟨rfl, rfl, rfl, by decide +kernel, rfl, by decide +kernel, by decide +kernel⟩

def sp_L_is_row (K : PySem.W.Frag) : Sp := fun vs H Q _ => ∃ (a : Addr) (ns : List Int), vs = [.ref a] ∧ SqL K H a (ns.map V.int) ∧ ns.length ≤ 1000 ∧ RetV (.bl true) H Q
theorem ev_is_row {K : PySem.W.Frag} {H : Hp} {a : Addr} {ns : List Int} (h : SqL K H a (ns.map V.int)) (hl : ns.length ≤ 1000) : SpV (sp_L_is_row K) [.ref a] H (.bl true) :=
  spv fun H1 e Q q E => ⟨a, ns, rfl, ex_l e h, hl, q⟩
theorem d_L_is_row (G : Gs mg) (p : Pl K mg "_law_is_row" st_L_is_row ["_law_found"]) (D_L_whole : Def P w K mg base CX0 1 "_law_whole" ["_law_found"] (sp_L_whole K)) : Def P w K mg base CX0 2 "_law_is_row" ["_law_found"] (sp_L_is_row K) := by
  refine p.ok (k := 1) sc_L_is_row (fun vs H Q E h => ?_) (fun f cdv A outer s H vs Q E hr h => ?_)
  · obtain ⟨a, ns, rfl, _⟩ := h
    rfl
  · obtain ⟨a, ns, rfl, hS, hl, q⟩ := h
    refine ⟨_, (pss_one (ps_ret (pe_and (pe_callB call_isi (by rfl) G.n_isinstance (by decide +kernel) (pa_cons (pv 0) (pa_cons (pe_bltn (v := .ty "list") (by rfl) G.n_list (by decide +kernel) rfl) pa_nil))) (pe_one (pe_callB (cr_all rfl) (by rfl) G.n_all (by decide +kernel) (pa_cons (pe_lc (own := [("_law_one", 1)]) (g := (gName 1)) (tt := tYes) (te := (tCall (sp_L_whole K) [] _ (tCons (tVar 1) tNil))) rfl sc_L_is_row.nd (pi_list (pv 0)) (blkOk_by (own := [("_law_one", 1)]) (N := ["_law_found", "_law_one"]) (sc := defScope st_L_is_row) (by decide +kernel)) (fun _ _ _ _ _ => (pg_name (i := 1) sc_L_is_row.nd rfl (.inl rfl))) (fun _ _ _ _ _ => pts_nil) (fun _ _ _ _ _ => (pe_fn D_L_whole (by decide) hr (by rfl) pass0 (pa_cons (pv 1) pa_nil)))) pa_nil)))))), ?_⟩
    refine s_ret (v := .bl true) (ev_is (ev_andV (a := true) (b := true) (ev_isi (ea_cons (ev_var rfl) (ea_cons ev_c ea_nil)) (fun H1 e => tyx_list (ex_l e hS)) (by decide +kernel)) fun _ => ?_) rfl) fun H1 e1 => q H1 e1
    exact ev_allL (ev_var rfl) hS (by rw [List.length_map]; omega) (fun x => rfl) fun i x H1 e hi => by
      obtain ⟨n, _, rfl⟩ := int_at hi
      exact ev_call (ea_cons (ev_var rfl) ea_nil) ev_whole
/-! ### law -/
abbrev st_law : Stmt := topS 19
theorem sc_law : FnScope ["_law_script", "_law_by", "_law_row", "_law_handed", "_law_again", "_law_found", "_law_named", "_law_told"] ["_law_script"] (defScope st_law) := ⟨rfl, rfl, rfl, by decide +kernel, rfl, by decide +kernel, by decide +kernel⟩

def sp_law (K : PySem.W.Frag) : Sp := fun vs H Q _ => ∃ (a : Addr) (ns : List Int), vs = [.ref a] ∧ SqL K H a (ns.map V.int) ∧ ns.length ≤ 63 ∧ (∀ z ∈ ns, Builtin.Int.intBits z ≤ 1048576) ∧ ∀ H', Q (.bl true) H'
theorem d_law {f : Addr} {fd : FuncData} (G : Gs mg) (F : Fun K "law" "law" st_law f fd) (D_L_signs : Def P w K mg base CX0 3 "_law_signs" ["_law_script", "_law_by", "_law_most", "_law_many"] (sp_L_signs K)) (D_counts : Def P w K mg base CX0 3 "counts" ["row"] (sp_counts K)) (D_pattern : Def P w K mg base CX0 3 "pattern" ["row"] (sp_pattern K)) (D_L_is_row : Def P w K mg base CX0 2 "_law_is_row" ["_law_found"] (sp_L_is_row K)) (D_L_counts : Def P w K mg base CX0 1 "_law_counts" ["_law_row"] (sp_L_counts K)) (D_L_pattern : Def P w K mg base CX0 1 "_law_pattern" ["_law_row"] (sp_L_pattern K)) : FnOk P w K mg base CX0 4 f fd ["_law_script"] (sp_law K) := by
  refine F.ok (k := 3) sc_law (fun vs H Q E h => ?_) (fun cdv A outer s H vs Q E hr h => ?_)
  · obtain ⟨a, ns, rfl, _⟩ := h
    rfl
  · obtain ⟨a, ns, rfl, hS, hl, hb, q⟩ := h
    refine ⟨_, (pss_cons (ps_for PassesOwn.never rfl (pi_range3 (by rfl) G.n_range (pa_cons pe_int (pa_cons (pe_callB (call_max2 rfl) (by rfl) G.n_max (by decide +kernel) (pa_cons pe_int (pa_cons (pe_callB (call_min2 rfl) (by rfl) G.n_min (by decide +kernel) (pa_cons pe_int (pa_cons (pe_callB call_len_seq (by rfl) G.n_len (by decide +kernel) (pa_cons (pv 0) pa_nil)) pa_nil))) pa_nil))) (pa_cons pe_int pa_nil)))) (pg_name (i := 1) sc_law.nd rfl (.inl rfl))
      (pss_cons (ps_set (i := 2) sc_law.nd rfl (.inl rfl) (pe_fn D_L_signs (by decide) hr (by rfl) pass0 (pa_cons (pv 0) (pa_cons (pv 1) (pa_cons pe_int (pa_cons (pe_op op_add pe_int (pe_op op_mod (pe_op op_mul (pe_op op_fdiv (pv 1) pe_int) pe_int) pe_int)) pa_nil))))))
      (pss_cons (ps_set (i := 3) sc_law.nd rfl (.inl rfl) (pe_callTy call_list_of (by rfl) G.n_list (by decide +kernel) (pa_cons (pv 2) pa_nil)))
      (pss_one (ps_for PassesOwn.never rfl (pi_range1 (by rfl) G.n_range (pa_cons pe_int pa_nil)) (pg_name (i := 4) sc_law.nd rfl (.inl rfl))
      (pss_cons (ps_par (i := 5) (j := 6) (by rfl) sc_law.nd rfl rfl (by decide) rfl rfl (pa_cons (pe_fn D_counts (by decide) hr (by rfl) pass0 (pa_cons (pv 3) pa_nil)) (pa_cons (pe_fn D_pattern (by decide) hr (by rfl) pass0 (pa_cons (pv 3) pa_nil)) pa_nil)) (by rfl))
      (pss_cons (ps_if (PW.pt (pw_or (pt_not (pt_val (pe_fn D_L_is_row (by decide) hr (by rfl) pass0 (pa_cons (pv 5) pa_nil)))) (pw_or (pt_cmpR (op_neD hr.units) (pv 5) (pe_fn D_L_counts (by decide) hr (by rfl) pass0 (pa_cons (pv 2) pa_nil)) (nomark _)) (pw_or1 (pt_cmpR (op_neD hr.units) (pv 3) (pv 2) (nomark _))))))
      (pss_one (ps_ret pe_bl))
      pss_nil)
      (pss_cons (ps_if (PW.pt (pw_or (pt_not (pt_val (pe_fn D_L_is_row (by decide) hr (by rfl) pass0 (pa_cons (pv 6) pa_nil)))) (pw_or (pt_cmpR (op_neD hr.units) (pv 6) (pe_fn D_L_pattern (by decide) hr (by rfl) pass0 (pa_cons (pv 2) pa_nil)) (nomark _)) (pw_or1 (pt_cmpR (op_neD hr.units) (pe_fn D_counts (by decide) hr (by rfl) pass0 (pa_cons (pv 6) pa_nil)) (pv 5) (nomark _))))))
      (pss_one (ps_ret pe_bl))
      pss_nil)
      (pss_cons (ps_expr (pe_bm PySem.F.plainAttrs_list PySem.F.slot_list_append PySem.F.type_list_append mt_append (pv 5) (pa_cons pe_int pa_nil)))
      (pss_one (ps_expr (pe_bm PySem.F.plainAttrs_list PySem.F.slot_list_append PySem.F.type_list_append mt_append (pv 6) (pa_cons pe_int pa_nil)))))))))))))
      (pss_cons (ps_set (i := 2) sc_law.nd rfl (.inl rfl) (pe_lst (pa_cons pe_int (pa_cons pe_int (pa_cons (pe_un un_neg pe_int) (pa_cons pe_int pa_nil))))))
      (pss_cons (ps_set (i := 7) sc_law.nd rfl (.inl rfl) (pe_lst (pa_cons (pe_fn D_counts (by decide) hr (by rfl) pass0 (pa_cons (pv 2) pa_nil)) (pa_cons (pe_fn D_pattern (by decide) hr (by rfl) pass0 (pa_cons (pv 2) pa_nil)) pa_nil))))
      (pss_cons (ps_asg (pe_un un_neg pe_int) (pg_sub (pv 2) pe_int set_list))
      (pss_cons (ps_set (i := 7) sc_law.nd rfl (.inl rfl) (pe_op op_cat (pv 7) (pe_lst (pa_cons (pe_fn D_counts (by decide) hr (by rfl) pass0 (pa_cons (pv 2) pa_nil)) (pa_cons (pe_fn D_pattern (by decide) hr (by rfl) pass0 (pa_cons (pv 2) pa_nil)) (pa_cons (pe_fn D_counts (by decide) hr (by rfl) pass0 (pa_cons (pe_lst (pa_cons pe_int (pa_cons pe_int pa_nil))) pa_nil)) (pa_cons (pe_fn D_pattern (by decide) hr (by rfl) pass0 (pa_cons (pe_lst (pa_cons pe_int (pa_cons pe_int pa_nil))) pa_nil)) pa_nil)))))))
      (pss_cons (ps_if (pt_cmpR (op_neD hr.units) (pv 7) (pe_lst (pa_cons (pe_lst (pa_cons pe_int (pa_cons pe_int (pa_cons pe_int (pa_cons pe_int pa_nil))))) (pa_cons (pe_lst (pa_cons pe_int (pa_cons pe_int (pa_cons pe_int (pa_cons pe_int pa_nil))))) (pa_cons (pe_lst (pa_cons pe_int (pa_cons pe_int (pa_cons pe_int (pa_cons pe_int pa_nil))))) (pa_cons (pe_lst (pa_cons pe_int (pa_cons pe_int (pa_cons pe_int (pa_cons pe_int pa_nil))))) (pa_cons (pe_lst (pa_cons pe_int (pa_cons pe_int pa_nil))) (pa_cons (pe_lst (pa_cons pe_int (pa_cons pe_int pa_nil))) pa_nil))))))) (nomark _))
      (pss_one (ps_ret pe_bl))
      pss_nil)
      (pss_one (ps_ret (pe_and (pe_cmpR (op_eqD hr.units) (pe_fn D_counts (by decide) hr (by rfl) pass0 (pa_cons (pe_lst (pa_cons pe_int (pa_cons pe_int (pa_cons (pe_un un_neg pe_int) (pa_cons pe_int pa_nil))))) pa_nil)) (pe_lst (pa_cons pe_int (pa_cons pe_int (pa_cons pe_int (pa_cons pe_int pa_nil))))) (nomark _)) (pe_and (pe_cmpR (op_eqD hr.units) (pe_fn D_pattern (by decide) hr (by rfl) pass0 (pa_cons (pe_lst (pa_cons pe_int (pa_cons pe_int (pa_cons (pe_un un_neg pe_int) (pa_cons pe_int pa_nil))))) pa_nil)) (pe_lst (pa_cons pe_int (pa_cons pe_int (pa_cons pe_int (pa_cons pe_int pa_nil))))) (nomark _)) (pe_one (pe_cmpR (op_eqD hr.units) (pe_fn D_counts (by decide) hr (by rfl) pass0 (pa_cons (pe_lst pa_nil) pa_nil)) (pe_lst pa_nil) (nomark _))))))))))))), ?_⟩
    have hf : ∀ z ∈ ns, FitS z := fun z hz => FitN.of_bits (hb z hz)
    refine q_forR3 (ea_cons ev_c (ea_cons (ev_max2 ev_c (ev_min2 ev_c (ev_len (ev_var rfl) hS))) (ea_cons ev_c ea_nil))) ⟨by split <;> split <;> omega, by split <;> split <;> omega⟩ ⟨by decide, by decide⟩
      (fun i σ' H' => ∃ y1 y2 y3 y4 y5 y6 y7, σ' = [some (.ref a), y1, y2, y3, y4, y5, y6, y7] ∧ Ex H H') (fun H1 e1 => ⟨_, _, _, _, _, _, _, rfl, e1⟩) (fun i σ' H' hi hP => ?_) (fun i σ' H' hP => ?_)
    · obtain ⟨y1, y2, y3, y4, y5, y6, y7, rfl, eH⟩ := hP
      have hi' : (i : Int) * 4 < 20 := by
        refine Int.lt_of_lt_of_le hi ?_
        split <;> split <;> omega
      refine q_asgL (el_call (ea_cons (ev_var rfl) (ea_cons (ev_is (w := .int ((i * 4 : Nat) : Int)) (ev_var rfl) (by congr 1)) (ea_cons ev_c (ea_cons (ev_op ev_c (ev_op (ev_op (ev_op (ev_var rfl) ev_c (rv_I ⟨by decide, by decide⟩)) ev_c (rv_I (.inr ⟨by decide, by decide⟩))) ev_c (rv_I (by decide))) rv_I0) ea_nil))))
        (el_signs (ex_l eH hS) hf (by omega) (by decide) (by decide) (by omega) (by omega))) fun pr H1 npr e1 hpr => ?_
      generalize eR : signsF ns (i * 4) 20 _ = R at hpr
      have hR : R.length ≤ 20 := by rw [← eR]; have := signsF_len ns (i * 4) 20 (1 + ((i : Int) * 4 / 4 * 2) % 8) (by decide); omega
      refine q_asgL (el_list (K := K) (ev_var rfl) (sq_of hpr)) fun ph H2 nph e2 hph => ?_
      have hpr2 := e2 _ _ hpr
      refine s_forR1 (n := 2) (ea_cons ev_c ea_nil) ⟨by decide, by decide⟩ (fun j σ'' H'' => ∃ z4 z5 z6, σ'' = [some (.ref a), some (.int ((i : Int) * 4)), some (.ref pr), some (.ref ph), z4, z5, z6, y7] ∧ Ex H2 H'')
        (fun H3 e3 => ⟨_, _, _, rfl, e3⟩) (fun j σ'' H'' hj hP2 => ?_) (fun σ'' H'' hP2 => ?_)
      · obtain ⟨z4, z5, z6, rfl, e3⟩ := hP2
        have hph3 := e3 _ _ hph
        have hpr3 := e3 _ _ hpr2
        refine el_call (ea_cons (ev_var rfl) ea_nil) (el_counts (sq_of hph3) hR) H'' (Ex.refl _) _ fun p1 H4 n1 e4 h1 => el_call (ea_cons (ev_var rfl) ea_nil) (el_pattern (sq_of (e4 _ _ hph3)) hR) H4 (Ex.refl _) _ fun p2 H5 n2 e5 h2 => ⟨_, _, rfl, ?_⟩
        have h15 := e5 _ _ h1
        have hR2 : (countsF R).length ≤ 1000 := by rw [countsF_len]; omega
        have hR3 : (patternF R).length ≤ 1000 := by rw [patternF_len]; omega
        have n12 : p1 ≠ p2 := ne_of_none h1 n2
        refine q_when (b := false) (et_is (et_or (a := false) (b := false) (et_not (a := true) (et_B (ev_call (ea_cons (ev_var rfl) ea_nil) (ev_is_row (sq_of h15) hR2)))) fun _ => et_or (a := false) (b := false) (et_test (ev_opL (ev_var rfl) (el_call (ea_cons (ev_var rfl) ea_nil) (el_L_counts (sq_of ((e4.trans e5) _ _ hpr3)) (by omega))) fun q1 H6 hq e6 => rv_neSame (sq_of (e6 _ _ h15)) (sq_of hq))) fun _ => et_test (ev_op (ev_var rfl) (ev_var rfl) (rv_neSame (sq_of ((e4.trans e5) _ _ hph3)) (sq_of ((e4.trans e5) _ _ hpr3))))) rfl)
          (fun hb => nomatch hb) fun _ H6 e6 => ?_
        have h16 := e6 _ _ h15
        have h26 := e6 _ _ h2
        have hpr6 := (e4.trans (e5.trans e6)) _ _ hpr3
        refine q_when (b := false) (et_is (et_or (a := false) (b := false) (et_not (a := true) (et_B (ev_call (ea_cons (ev_var rfl) ea_nil) (ev_is_row (sq_of h26) hR3)))) fun _ => et_or (a := false) (b := false) (et_test (ev_opL (ev_var rfl) (el_call (ea_cons (ev_var rfl) ea_nil) (el_L_pattern (sq_of hpr6) (by omega))) fun q1 H7 hq e7 => rv_neSame (sq_of (e7 _ _ h26)) (sq_of hq))) fun _ => et_test (ev_opL1 (el_call (ea_cons (ev_var rfl) ea_nil) (el_counts (sq_of h26) (by rw [patternF_len]; exact hR))) (fun H7 e7 => ev_var rfl) fun q1 H7 hq e7 => rv_neSame (ns := countsF R) (by rw [← counts_pattern R]; exact sq_of hq) (sq_of (e7 _ _ h16)))) rfl)
          (fun hb => nomatch hb) fun _ H7 e7 => ?_
        refine q_app (e7 _ _ h16) (ev_var rfl) ev_c (by rw [List.length_map, countsF_len]; omega) fun H8 e8 => ?_
        refine s_app (l := p2) (xs := (patternF R).map V.int) (by rw [upd_ne n12.symm]; exact (e7.trans e8) _ _ h26) (ev_var rfl) ev_c (by rw [List.length_map, patternF_len]; omega) fun H9 e9 => ?_
        refine ⟨_, _, _, rfl, e3.trans ?_⟩
        have eA : Ex H'' H8 := e4.trans (e5.trans (e6.trans (e7.trans e8)))
        exact Ex.mut ((Ex.mut eA n1).trans e9) (fresh_back e4 n2)
      · obtain ⟨z4, z5, z6, rfl, e3⟩ := hP2
        exact ⟨_, _, _, _, _, _, _, rfl, eH.trans (e1.trans (e2.trans e3))⟩
    · obtain ⟨y1, y2, y3, y4, y5, y6, y7, rfl, eH⟩ := hP
      refine q_asgL (xs := ([7, 7, -1, 7] : List Int).map V.int) (el_lst (ea_cons ev_c (ea_cons ev_c (ea_cons (ev_un ev_c ru_neg) (ea_cons ev_c ea_nil)))) (by decide)) fun pr H1 npr e1 hpr => ?_
      refine el_call (ea_cons (ev_var rfl) ea_nil) (el_counts (sq_of hpr) (by decide)) H1 (Ex.refl _) _ fun p1 H2 n1 e2 h1 => el_call (ea_cons (ev_var rfl) ea_nil) (el_pattern (sq_of (e2 _ _ hpr)) (by decide)) H2 (Ex.refl _) _ fun p2 H3 n2 e3 h2 => ⟨show 2 ≤ sizeLine by decide, fun pt npt => ?_⟩
      have h1' := e3 _ _ h1
      have hpr3 := (e2.trans e3) _ _ hpr
      have np1 : p1 ≠ pr := (ne_of_none hpr n1).symm
      have np2 : p2 ≠ pr := (ne_of_none (e2 _ _ hpr) n2).symm
      have npt1 : p1 ≠ pt := ne_of_none h1' npt
      have npt2 : p2 ≠ pt := ne_of_none h2 npt
      have nptr : pr ≠ pt := ne_of_none hpr3 npt
      refine q_setL (j := 1) (v := .int (-1)) (l := pr) (xs := ([7, 7, -1, 7] : List Int).map V.int) (by rw [upd_ne nptr]; exact hpr3) (ev_un ev_c ru_neg) (ev_var rfl) ev_c (by decide) fun H4 e4 => ?_
      have k1 : (upd H4 pr (.lst ((([7, 7, -1, 7] : List Int).map V.int).set 1 (.int (-1))))) p1 = some (.lst (([0, 1, 0, 2] : List Int).map V.int)) := by rw [upd_ne np1]; exact e4 _ _ (by rw [upd_ne npt1]; exact h1')
      have k2 : (upd H4 pr (.lst ((([7, 7, -1, 7] : List Int).map V.int).set 1 (.int (-1))))) p2 = some (.lst (([0, 0, 1, 0] : List Int).map V.int)) := by rw [upd_ne np2]; exact e4 _ _ (by rw [upd_ne npt2]; exact h2)
      have kt : (upd H4 pr (.lst ((([7, 7, -1, 7] : List Int).map V.int).set 1 (.int (-1))))) pt = some (.lst [.ref p1, .ref p2]) := by rw [upd_ne nptr.symm]; exact e4 _ _ upd_same
      have kr : (upd H4 pr (.lst ((([7, 7, -1, 7] : List Int).map V.int).set 1 (.int (-1))))) pr = some (.lst (([7, -1, -1, 7] : List Int).map V.int)) := upd_same
      revert k1 k2 kt kr
      generalize upd H4 pr _ = H5
      intro k1 k2 kt kr
      have two : ∀ x y : Int, EvL (tLst (tCons (tC (.int x)) (tCons (tC (.int y)) tNil))) [some (V.ref a), y1, some (V.ref pr), y3, y4, y5, y6, some (V.ref pt)] H5 (([x, y] : List Int).map V.int) := fun x y => el_lst (ea_cons ev_c (ea_cons ev_c ea_nil)) (show 2 ≤ 100000 by decide)
      refine edl_cat (K := K) (edl_ev (ev_var rfl) kt (.cons (dp_list (sq_of k1)) (.cons (dp_list (sq_of k2)) .nil)))
        (edl_lst (eda_cons (ed_L (el_call (ea_cons (ev_var rfl) ea_nil) (el_counts (sq_of kr) (by decide)))) (eda_cons (ed_L (el_call (ea_cons (ev_var rfl) ea_nil) (el_pattern (sq_of kr) (by decide))))
          (eda_cons (ed_L (el_callN (two 1 2) fun p H6 _ h6 => el_counts (sq_of h6) (by decide))) (eda_cons (ed_L (el_callN (two 3 3) fun p H6 _ h6 => el_pattern (sq_of h6) (by decide))) eda_nil)))) (by simp)) (by simp) H5 (Ex.refl _) _ fun pu vs H6 e6 hpu hds => ?_
      refine q_when (b := false) (et_test (ev_is (ev_neD (K := K) (edl_ev (ev_var rfl) hpu hds).ed (edl_lst (eda_cons (ed_L (ns := [0, 1, 0, 2]) (el_lst (ea_cons ev_c (ea_cons ev_c (ea_cons ev_c (ea_cons ev_c ea_nil)))) (by decide))) (eda_cons (ed_L (ns := [0, 0, 1, 0]) (el_lst (ea_cons ev_c (ea_cons ev_c (ea_cons ev_c (ea_cons ev_c ea_nil)))) (by decide)))
        (eda_cons (ed_L (ns := [0, 0, 1, 1]) (el_lst (ea_cons ev_c (ea_cons ev_c (ea_cons ev_c (ea_cons ev_c ea_nil)))) (by decide))) (eda_cons (ed_L (ns := [0, 1, 1, 0]) (el_lst (ea_cons ev_c (ea_cons ev_c (ea_cons ev_c (ea_cons ev_c ea_nil)))) (by decide)))
        (eda_cons (ed_L (ns := [0, 0]) (el_lst (ea_cons ev_c (ea_cons ev_c ea_nil)) (by decide))) (eda_cons (ed_L (ns := [0, 0]) (el_lst (ea_cons ev_c (ea_cons ev_c ea_nil)) (by decide))) eda_nil)))))) (by decide)).ed (by decide +kernel) (by decide +kernel)) (by decide +kernel))) (fun hb => nomatch hb) fun _ H7 e7 => ?_
      refine s_ret (v := .bl true) (ev_is (ev_andV (a := true) (ev_opLL (el_callN (ns := [7, 7, -1, 7]) (xs := [0, 1, 0, 2]) (el_lst (ea_cons ev_c (ea_cons ev_c (ea_cons (ev_un ev_c ru_neg) (ea_cons ev_c ea_nil)))) (by decide)) fun p H6 _ h6 => el_counts (sq_of h6) (by decide)) (el_lst (vs := ([0, 1, 0, 2] : List Int).map V.int) (ea_cons ev_c (ea_cons ev_c (ea_cons ev_c (ea_cons ev_c ea_nil)))) (by decide)) fun p1 p2 H8 g1 g2 e8 => rv_eqSame (sq_of g1) (sq_of g2)) fun _ =>
        ev_andV (a := true) (ev_opLL (el_callN (ns := [7, 7, -1, 7]) (xs := [0, 0, 1, 0]) (el_lst (ea_cons ev_c (ea_cons ev_c (ea_cons (ev_un ev_c ru_neg) (ea_cons ev_c ea_nil)))) (by decide)) fun p H6 _ h6 => el_pattern (sq_of h6) (by decide)) (el_lst (vs := ([0, 0, 1, 0] : List Int).map V.int) (ea_cons ev_c (ea_cons ev_c (ea_cons ev_c (ea_cons ev_c ea_nil)))) (by decide)) fun p1 p2 H8 g1 g2 e8 => rv_eqSame (sq_of g1) (sq_of g2)) fun _ =>
        ev_opLL (el_callN (ns := []) (xs := []) (el_lst ea_nil (by decide)) fun p H6 _ h6 => el_counts (sq_of h6) (by decide)) (el_lst (vs := ([] : List Int).map V.int) ea_nil (by decide)) fun p1 p2 H8 g1 g2 e8 => rv_eqSame (sq_of g1) (sq_of g2)) rfl) fun H8 e8 => q H8
end
end Oa
namespace Oa
open PySem PySem.Spec PyProof.Rows L2 Evl
theorem all_mk {l : PySem.W.OpenLaw} {w : World} {K : PySem.W.Frag} {h : Heap} {mg : Str → Option Value} {fa : Addr} {f0 : Addr} {od0 an0 : Option Addr} {sl0 : Array (Option Value)} {oc0 kV0 dc0 pm0 cd0 ct0 : Value} {f1 : Addr} {od1 an1 : Option Addr} {sl1 : Array (Option Value)} {oc1 kV1 dc1 pm1 cd1 ct1 : Value} {f2 : Addr} {od2 an2 : Option Addr} {sl2 : Array (Option Value)} {oc2 kV2 dc2 pm2 cd2 ct2 : Value} {f3 : Addr} {od3 an3 : Option Addr} {sl3 : Array (Option Value)} {oc3 kV3 dc3 pm3 cd3 ct3 : Value} {f4 : Addr} {od4 an4 : Option Addr} {sl4 : Array (Option Value)} {oc4 kV4 dc4 pm4 cd4 ct4 : Value} {f5 : Addr} {od5 an5 : Option Addr} {sl5 : Array (Option Value)} {oc5 kV5 dc5 pm5 cd5 ct5 : Value} {f6 : Addr} {od6 an6 : Option Addr} {sl6 : Array (Option Value)} {oc6 kV6 dc6 pm6 cd6 ct6 : Value} {f7 : Addr} {od7 an7 : Option Addr} {sl7 : Array (Option Value)} {oc7 kV7 dc7 pm7 cd7 ct7 : Value} {f8 : Addr} {od8 an8 : Option Addr} {sl8 : Array (Option Value)} {oc8 kV8 dc8 pm8 cd8 ct8 : Value} {f9 : Addr} {od9 an9 : Option Addr} {sl9 : Array (Option Value)} {oc9 kV9 dc9 pm9 cd9 ct9 : Value} {f10 : Addr} {od10 an10 : Option Addr} {sl10 : Array (Option Value)} {oc10 kV10 dc10 pm10 cd10 ct10 : Value} {f11 : Addr} {od11 an11 : Option Addr} {sl11 : Array (Option Value)} {oc11 kV11 dc11 pm11 cd11 ct11 : Value} {f12 : Addr} {od12 an12 : Option Addr} {sl12 : Array (Option Value)} {oc12 kV12 dc12 pm12 cd12 ct12 : Value} {f13 : Addr} {od13 an13 : Option Addr} {sl13 : Array (Option Value)} {oc13 kV13 dc13 pm13 cd13 ct13 : Value} {tk0 : Tok} (X : K.In h) (N : h.Ns mainGlobals mg) (hfa : mg "law" = some (.ref fa))
    (a0 : PySem.W.nsIn K mainGlobals "is_number" = some (some (.ref f0)))
    (l0 : K.lookup f0 = some ⟨oc0, od0, .func (PySem.W.fnOf "is_number" "is_number" (defArgs st_is_number) (defBody st_is_number) (defScope st_is_number) .none kV0 dc0 pm0 an0 cd0 ct0), sl0⟩)
    (c0 : PySem.W.codeIn K cd0 "is_number" = true) (k0 : PySem.W.keepIn K (.ref f0) = true)
    (a1 : PySem.W.nsIn K mainGlobals "check_row" = some (some (.ref f1)))
    (l1 : K.lookup f1 = some ⟨oc1, od1, .func (PySem.W.fnOf "check_row" "check_row" (defArgs st_check_row) (defBody st_check_row) (defScope st_check_row) .none kV1 dc1 pm1 an1 cd1 ct1), sl1⟩)
    (c1 : PySem.W.codeIn K cd1 "check_row" = true) (k1 : PySem.W.keepIn K (.ref f1) = true)
    (a2 : PySem.W.nsIn K mainGlobals "counts_of" = some (some (.ref f2)))
    (l2 : K.lookup f2 = some ⟨oc2, od2, .func (PySem.W.fnOf "counts_of" "counts_of" (defArgs st_counts_of) (defBody st_counts_of) (defScope st_counts_of) .none kV2 dc2 pm2 an2 cd2 ct2), sl2⟩)
    (c2 : PySem.W.codeIn K cd2 "counts_of" = true) (k2 : PySem.W.keepIn K (.ref f2) = true)
    (a3 : PySem.W.nsIn K mainGlobals "counts" = some (some (.ref f3)))
    (l3 : K.lookup f3 = some ⟨oc3, od3, .func (PySem.W.fnOf "counts" "counts" (defArgs st_counts) (defBody st_counts) (defScope st_counts) .none kV3 dc3 pm3 an3 cd3 ct3), sl3⟩)
    (c3 : PySem.W.codeIn K cd3 "counts" = true) (k3 : PySem.W.keepIn K (.ref f3) = true)
    (a4 : PySem.W.nsIn K mainGlobals "pattern" = some (some (.ref f4)))
    (l4 : K.lookup f4 = some ⟨oc4, od4, .func (PySem.W.fnOf "pattern" "pattern" (defArgs st_pattern) (defBody st_pattern) (defScope st_pattern) .none kV4 dc4 pm4 an4 cd4 ct4), sl4⟩)
    (c4 : PySem.W.codeIn K cd4 "pattern" = true) (k4 : PySem.W.keepIn K (.ref f4) = true)
    (a5 : PySem.W.nsIn K mainGlobals "_law_cell_at" = some (some (.ref f5)))
    (l5 : K.lookup f5 = some ⟨oc5, od5, .func (PySem.W.fnOf "_law_cell_at" "_law_cell_at" (defArgs st_L_cell_at) (defBody st_L_cell_at) (defScope st_L_cell_at) .none kV5 dc5 pm5 an5 cd5 ct5), sl5⟩)
    (c5 : PySem.W.codeIn K cd5 "_law_cell_at" = true) (k5 : PySem.W.keepIn K (.ref f5) = true)
    (a6 : PySem.W.nsIn K mainGlobals "_law_draw" = some (some (.ref f6)))
    (l6 : K.lookup f6 = some ⟨oc6, od6, .func (PySem.W.fnOf "_law_draw" "_law_draw" (defArgs st_L_draw) (defBody st_L_draw) (defScope st_L_draw) .none kV6 dc6 pm6 an6 cd6 ct6), sl6⟩)
    (c6 : PySem.W.codeIn K cd6 "_law_draw" = true) (k6 : PySem.W.keepIn K (.ref f6) = true)
    (a7 : PySem.W.nsIn K mainGlobals "_law_number" = some (some (.ref f7)))
    (l7 : K.lookup f7 = some ⟨oc7, od7, .func (PySem.W.fnOf "_law_number" "_law_number" (defArgs st_L_number) (defBody st_L_number) (defScope st_L_number) .none kV7 dc7 pm7 an7 cd7 ct7), sl7⟩)
    (c7 : PySem.W.codeIn K cd7 "_law_number" = true) (k7 : PySem.W.keepIn K (.ref f7) = true)
    (a8 : PySem.W.nsIn K mainGlobals "_law_signs" = some (some (.ref f8)))
    (l8 : K.lookup f8 = some ⟨oc8, od8, .func (PySem.W.fnOf "_law_signs" "_law_signs" (defArgs st_L_signs) (defBody st_L_signs) (defScope st_L_signs) .none kV8 dc8 pm8 an8 cd8 ct8), sl8⟩)
    (c8 : PySem.W.codeIn K cd8 "_law_signs" = true) (k8 : PySem.W.keepIn K (.ref f8) = true)
    (a9 : PySem.W.nsIn K mainGlobals "_law_counts" = some (some (.ref f9)))
    (l9 : K.lookup f9 = some ⟨oc9, od9, .func (PySem.W.fnOf "_law_counts" "_law_counts" (defArgs st_L_counts) (defBody st_L_counts) (defScope st_L_counts) .none kV9 dc9 pm9 an9 cd9 ct9), sl9⟩)
    (c9 : PySem.W.codeIn K cd9 "_law_counts" = true) (k9 : PySem.W.keepIn K (.ref f9) = true)
    (a10 : PySem.W.nsIn K mainGlobals "_law_pattern" = some (some (.ref f10)))
    (l10 : K.lookup f10 = some ⟨oc10, od10, .func (PySem.W.fnOf "_law_pattern" "_law_pattern" (defArgs st_L_pattern) (defBody st_L_pattern) (defScope st_L_pattern) .none kV10 dc10 pm10 an10 cd10 ct10), sl10⟩)
    (c10 : PySem.W.codeIn K cd10 "_law_pattern" = true) (k10 : PySem.W.keepIn K (.ref f10) = true)
    (a11 : PySem.W.nsIn K mainGlobals "_law_whole" = some (some (.ref f11)))
    (l11 : K.lookup f11 = some ⟨oc11, od11, .func (PySem.W.fnOf "_law_whole" "_law_whole" (defArgs st_L_whole) (defBody st_L_whole) (defScope st_L_whole) .none kV11 dc11 pm11 an11 cd11 ct11), sl11⟩)
    (c11 : PySem.W.codeIn K cd11 "_law_whole" = true) (k11 : PySem.W.keepIn K (.ref f11) = true)
    (a12 : PySem.W.nsIn K mainGlobals "_law_is_row" = some (some (.ref f12)))
    (l12 : K.lookup f12 = some ⟨oc12, od12, .func (PySem.W.fnOf "_law_is_row" "_law_is_row" (defArgs st_L_is_row) (defBody st_L_is_row) (defScope st_L_is_row) .none kV12 dc12 pm12 an12 cd12 ct12), sl12⟩)
    (c12 : PySem.W.codeIn K cd12 "_law_is_row" = true) (k12 : PySem.W.keepIn K (.ref f12) = true)
    (a13 : PySem.W.nsIn K mainGlobals "law" = some (some (.ref f13)))
    (l13 : K.lookup f13 = some ⟨oc13, od13, .func (PySem.W.fnOf "law" "law" (defArgs st_law) (defBody st_law) (defScope st_law) .none kV13 dc13 pm13 an13 cd13 ct13), sl13⟩)
    (c13 : PySem.W.codeIn K cd13 "law" = true) (k13 : PySem.W.keepIn K (.ref f13) = true)
    (z0 : PySem.W.nsIn K mainGlobals "all" = some none)
    (z1 : PySem.W.nsIn K mainGlobals "bool" = some none)
    (z2 : PySem.W.nsIn K mainGlobals "enumerate" = some none)
    (z3 : PySem.W.nsIn K mainGlobals "int" = some none)
    (z4 : PySem.W.nsIn K mainGlobals "isinstance" = some none)
    (z5 : PySem.W.nsIn K mainGlobals "len" = some none)
    (z6 : PySem.W.nsIn K mainGlobals "list" = some none)
    (z7 : PySem.W.nsIn K mainGlobals "max" = some none)
    (z8 : PySem.W.nsIn K mainGlobals "min" = some none)
    (z9 : PySem.W.nsIn K mainGlobals "range" = some none)
    (w0 : PySem.W.nsIn K mainGlobals "LONGEST" = some (some (.int 20 tk0))) :
    ∃ fd : FuncData, (∀ (s : Shared) (v : Value), BindsTo s fd ⟨[v], []⟩ [("_law_script", v)]) ∧ ∀ base : Heap, K.In base → base.Ns mainGlobals mg → FnOk l.prog w K mg base CX0 4 fa fd ["_law_script"] (sp_law K) := by
  have e := hfa.symm.trans (PySem.W.mg_of X N a13)
  cases e
  have G : Gs mg := ⟨PySem.W.mg_none_of X N z0, PySem.W.mg_none_of X N z1, PySem.W.mg_none_of X N z2, PySem.W.mg_none_of X N z3, PySem.W.mg_none_of X N z4, PySem.W.mg_none_of X N z5, PySem.W.mg_none_of X N z6, PySem.W.mg_none_of X N z7, PySem.W.mg_none_of X N z8, PySem.W.mg_none_of X N z9, ⟨_, PySem.W.mg_of X N w0⟩⟩
  have p0 : Pl K mg "is_number" st_is_number ["thing"] := pl_mk X N a0 l0 c0 k0 fun _ _ _ _ _ _ us hl => match us, hl with | [_], _ => rfl
  have p1 : Pl K mg "check_row" st_check_row ["row"] := pl_mk X N a1 l1 c1 k1 fun _ _ _ _ _ _ us hl => match us, hl with | [_], _ => rfl
  have p2 : Pl K mg "counts_of" st_counts_of ["row"] := pl_mk X N a2 l2 c2 k2 fun _ _ _ _ _ _ us hl => match us, hl with | [_], _ => rfl
  have p3 : Pl K mg "counts" st_counts ["row"] := pl_mk X N a3 l3 c3 k3 fun _ _ _ _ _ _ us hl => match us, hl with | [_], _ => rfl
  have p4 : Pl K mg "pattern" st_pattern ["row"] := pl_mk X N a4 l4 c4 k4 fun _ _ _ _ _ _ us hl => match us, hl with | [_], _ => rfl
  have p5 : Pl K mg "_law_cell_at" st_L_cell_at ["_law_script", "_law_k"] := pl_mk X N a5 l5 c5 k5 fun _ _ _ _ _ _ us hl => match us, hl with | [_, _], _ => rfl
  have p6 : Pl K mg "_law_draw" st_L_draw ["_law_cell", "_law_k", "_law_most"] := pl_mk X N a6 l6 c6 k6 fun _ _ _ _ _ _ us hl => match us, hl with | [_, _, _], _ => rfl
  have p7 : Pl K mg "_law_number" st_L_number ["_law_cell", "_law_k", "_law_limit"] := pl_mk X N a7 l7 c7 k7 fun _ _ _ _ _ _ us hl => match us, hl with | [_, _, _], _ => rfl
  have p8 : Pl K mg "_law_signs" st_L_signs ["_law_script", "_law_by", "_law_most", "_law_many"] := pl_mk X N a8 l8 c8 k8 fun _ _ _ _ _ _ us hl => match us, hl with | [_, _, _, _], _ => rfl
  have p9 : Pl K mg "_law_counts" st_L_counts ["_law_row"] := pl_mk X N a9 l9 c9 k9 fun _ _ _ _ _ _ us hl => match us, hl with | [_], _ => rfl
  have p10 : Pl K mg "_law_pattern" st_L_pattern ["_law_row"] := pl_mk X N a10 l10 c10 k10 fun _ _ _ _ _ _ us hl => match us, hl with | [_], _ => rfl
  have p11 : Pl K mg "_law_whole" st_L_whole ["_law_found"] := pl_mk X N a11 l11 c11 k11 fun _ _ _ _ _ _ us hl => match us, hl with | [_], _ => rfl
  have p12 : Pl K mg "_law_is_row" st_L_is_row ["_law_found"] := pl_mk X N a12 l12 c12 k12 fun _ _ _ _ _ _ us hl => match us, hl with | [_], _ => rfl
  refine ⟨PySem.W.fnOf "law" "law" (defArgs st_law) (defBody st_law) (defScope st_law) .none kV13 dc13 pm13 an13 cd13 ct13, fun s v => .of_eq rfl, fun base _ _ => ?_⟩
  have D_is_number : Def l.prog w K mg base CX0 1 "is_number" ["thing"] (sp_is_number K) := d_is_number G p0 
  have D_check_row : Def l.prog w K mg base CX0 2 "check_row" ["row"] (sp_check_row K) := d_check_row G p1 D_is_number
  have D_counts_of : Def l.prog w K mg base CX0 1 "counts_of" ["row"] (sp_counts_of K) := d_counts_of G p2 
  have D_counts : Def l.prog w K mg base CX0 3 "counts" ["row"] (sp_counts K) := d_counts G p3 D_check_row D_counts_of
  have D_pattern : Def l.prog w K mg base CX0 3 "pattern" ["row"] (sp_pattern K) := d_pattern G p4 D_check_row
  have D_L_cell_at : Def l.prog w K mg base CX0 1 "_law_cell_at" ["_law_script", "_law_k"] (sp_L_cell_at K) := d_L_cell_at G p5 
  have D_L_draw : Def l.prog w K mg base CX0 1 "_law_draw" ["_law_cell", "_law_k", "_law_most"] (sp_L_draw K) := d_L_draw G p6 
  have D_L_number : Def l.prog w K mg base CX0 2 "_law_number" ["_law_cell", "_law_k", "_law_limit"] (sp_L_number K) := d_L_number G p7 D_L_draw
  have D_L_signs : Def l.prog w K mg base CX0 3 "_law_signs" ["_law_script", "_law_by", "_law_most", "_law_many"] (sp_L_signs K) := d_L_signs G p8 D_L_number D_L_cell_at
  have D_L_counts : Def l.prog w K mg base CX0 1 "_law_counts" ["_law_row"] (sp_L_counts K) := d_L_counts G p9 
  have D_L_pattern : Def l.prog w K mg base CX0 1 "_law_pattern" ["_law_row"] (sp_L_pattern K) := d_L_pattern G p10 
  have D_L_whole : Def l.prog w K mg base CX0 1 "_law_whole" ["_law_found"] (sp_L_whole K) := d_L_whole G p11 
  have D_L_is_row : Def l.prog w K mg base CX0 2 "_law_is_row" ["_law_found"] (sp_L_is_row K) := d_L_is_row G p12 D_L_whole
  exact d_law G (fun_mk (st := st_law) l13 c13 k13) D_L_signs D_counts D_pattern D_L_is_row D_L_counts D_L_pattern
end Oa
open PySem PySem.W PyProof.Rows
set_option maxHeartbeats 0 in
theorem PySem.Challenge.cw_oftenahead_k01_counts_holds : PySem.Challenge.rw_oftenahead_k01_counts.Holds := by
  w_on; o_law; k_head; (case hw => w_witness2)
  k_fill
  refine L2.walk_ofB (l := PySem.Challenge.rw_oftenahead_k01_counts) (n := 63) (k := 4) (x := "_law_script") (CX := fun _ => L2.CX0) (sp := fun w => Oa.sp_law _) rfl (by decide) rfl ⟨rfl, by decide, by decide⟩ (fun w h Y => PySem.W.kIn_of Y) ?F (fun _ _ a ns hl hb _ hS => ⟨a, ns, rfl, hS, hl, hb, fun _ => rfl⟩) (fun _ _ _ _ _ h => h)
  case F =>
    intro w mg fa h KX G hmg
    refine' Oa.all_mk KX G hmg ?a0 ?l0 ?c0 ?k0 ?a1 ?l1 ?c1 ?k1 ?a2 ?l2 ?c2 ?k2 ?a3 ?l3 ?c3 ?k3 ?a4 ?l4 ?c4 ?k4 ?a5 ?l5 ?c5 ?k5 ?a6 ?l6 ?c6 ?k6 ?a7 ?l7 ?c7 ?k7 ?a8 ?l8 ?c8 ?k8 ?a9 ?l9 ?c9 ?k9 ?a10 ?l10 ?c10 ?k10 ?a11 ?l11 ?c11 ?k11 ?a12 ?l12 ?c12 ?k12 ?a13 ?l13 ?c13 ?k13 ?z0 ?z1 ?z2 ?z3 ?z4 ?z5 ?z6 ?z7 ?z8 ?z9 ?w0
    (case a0 => k_is); (case l0 => k_is); (case c0 => k_is); (case k0 => k_is); (case a1 => k_is); (case l1 => k_is); (case c1 => k_is); (case k1 => k_is); (case a2 => k_is); (case l2 => k_is); (case c2 => k_is); (case k2 => k_is); (case a3 => k_is); (case l3 => k_is); (case c3 => k_is); (case k3 => k_is); (case a4 => k_is); (case l4 => k_is); (case c4 => k_is); (case k4 => k_is); (case a5 => k_is); (case l5 => k_is); (case c5 => k_is); (case k5 => k_is); (case a6 => k_is); (case l6 => k_is); (case c6 => k_is); (case k6 => k_is); (case a7 => k_is); (case l7 => k_is); (case c7 => k_is); (case k7 => k_is); (case a8 => k_is); (case l8 => k_is); (case c8 => k_is); (case k8 => k_is); (case a9 => k_is); (case l9 => k_is); (case c9 => k_is); (case k9 => k_is); (case a10 => k_is); (case l10 => k_is); (case c10 => k_is); (case k10 => k_is); (case a11 => k_is); (case l11 => k_is); (case c11 => k_is); (case k11 => k_is); (case a12 => k_is); (case l12 => k_is); (case c12 => k_is); (case k12 => k_is); (case a13 => k_is); (case l13 => k_is); (case c13 => k_is); (case k13 => k_is); (case z0 => k_is); (case z1 => k_is); (case z2 => k_is); (case z3 => k_is); (case z4 => k_is); (case z5 => k_is); (case z6 => k_is); (case z7 => k_is); (case z8 => k_is); (case z9 => k_is); (case w0 => k_is)
