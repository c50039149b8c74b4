import PyProof.Rows.All
import Wide.All
import OpenK.AllK
import Wide.FinOn
import HandS.ForMost
import HandS.ForExc
import HandS.Star
import HandS.Style
import HandS.Gcd
import HandS.Wide
import HandS.IsInst
import HandS.Walk
import HandS.TupSets
import HandS.SetBool
import HandS.DictTup
import HandS.Defaults
import HandS.Small
import KE.SortData
import KE.KTupSum
import KE.GoesEnum
import KE.KExcSuper
import KE.KSuper
import HandS.ExcSuper
import KE.KDictPairs
import KE.KDictDisplayH
import HandS.Dict
import PyProof.ReprRoads
import HandS.Lambda
import KE.KExcIs
import HandS.EndTab
import PySem.Challenge.RW_bendsigns_k26_whole_gaskets_of_a_rim_by
set_option Elab.async false
set_option linter.all false
set_option maxRecDepth 100000
set_option maxHeartbeats 4000000
namespace BS
/-! fours as lists of four integers; exchange, turning, the way down -/
def sq (b : List Int) : Int := (b.map fun x => x * x).sum
def ex (s x : Int) : Int := 2 * (s - x) - x
def sw (b : List Int) (p : Nat) : List Int := b.set p (ex b.sum (b.getD p 0))
def tn (b : List Int) (p : Nat) : List Int := (b.map fun x => x + 2 * b.getD p 0).set p (-(b.getD p 0))
structure IsF (b : List Int) : Prop where
  len : b.length = 4
  eq : 2 * sq b = b.sum * b.sum
  pos : 0 < b.sum
theorem four_of {b : List Int} (h : b.length = 4) : ∃ x y z t, b = [x, y, z, t] := by
  match b, h with
  | [x, y, z, t], _ => exact ⟨x, y, z, t, rfl⟩
theorem p4 {p : Nat} (h : p < 4) : p = 0 ∨ p = 1 ∨ p = 2 ∨ p = 3 := by omega
theorem sum4 (x y z t : Int) : [x, y, z, t].sum = x + y + z + t := by simp [List.sum_cons]; omega
theorem sq4 (x y z t : Int) : sq [x, y, z, t] = x * x + y * y + z * z + t * t := by simp [sq, List.sum_cons]; omega
theorem sw0 (x y z t : Int) : sw [x, y, z, t] 0 = [ex (x + y + z + t) x, y, z, t] := by unfold sw; rw [sum4]; rfl
theorem sw1 (x y z t : Int) : sw [x, y, z, t] 1 = [x, ex (x + y + z + t) y, z, t] := by unfold sw; rw [sum4]; rfl
theorem sw2 (x y z t : Int) : sw [x, y, z, t] 2 = [x, y, ex (x + y + z + t) z, t] := by unfold sw; rw [sum4]; rfl
theorem sw3 (x y z t : Int) : sw [x, y, z, t] 3 = [x, y, z, ex (x + y + z + t) t] := by unfold sw; rw [sum4]; rfl
theorem tn0 (x y z t : Int) : tn [x, y, z, t] 0 = [-x, y + 2 * x, z + 2 * x, t + 2 * x] := rfl
theorem tn1 (x y z t : Int) : tn [x, y, z, t] 1 = [x + 2 * y, -y, z + 2 * y, t + 2 * y] := rfl
theorem tn2 (x y z t : Int) : tn [x, y, z, t] 2 = [x + 2 * z, y + 2 * z, -z, t + 2 * z] := rfl
theorem tn3 (x y z t : Int) : tn [x, y, z, t] 3 = [x + 2 * t, y + 2 * t, z + 2 * t, -t] := rfl
theorem g0 (x y z t : Int) : [x, y, z, t].getD 0 0 = x := rfl
theorem g1 (x y z t : Int) : [x, y, z, t].getD 1 0 = y := rfl
theorem g2 (x y z t : Int) : [x, y, z, t].getD 2 0 = z := rfl
theorem g3 (x y z t : Int) : [x, y, z, t].getD 3 0 = t := rfl
theorem isF4 {x y z t : Int} (e : 2 * (x * x + y * y + z * z + t * t) = (x + y + z + t) * (x + y + z + t)) (h : 0 < x + y + z + t) : IsF [x, y, z, t] :=
  ⟨rfl, by rw [sq4, sum4]; exact e, by rw [sum4]; exact h⟩
theorem IsF.eq4 {x y z t : Int} (h : IsF [x, y, z, t]) : 2 * (x * x + y * y + z * z + t * t) = (x + y + z + t) * (x + y + z + t) := by
  have := h.eq
  rw [sq4, sum4] at this
  exact this
theorem IsF.pos4 {x y z t : Int} (h : IsF [x, y, z, t]) : 0 < x + y + z + t := by
  have := h.pos
  rw [sum4] at this
  exact this
theorem sq_nn (x : Int) : 0 ≤ x * x := by
  rcases Int.le_total 0 x with h | h
  · exact Int.mul_nonneg h h
  · have : 0 ≤ (-x) * (-x) := Int.mul_nonneg (by omega) (by omega)
    rw [Int.neg_mul_neg] at this
    exact this
/-- two bends of a four -/
theorem pair_nn {x y z t : Int} (e : 2 * (x * x + y * y + z * z + t * t) = (x + y + z + t) * (x + y + z + t)) (h : 0 < x + y + z + t) : 0 ≤ x + y := by
  have e1 : (x - y) * (x - y) + (z - t) * (z - t) = 2 * ((x + y) * (z + t)) := by grind
  have n1 := sq_nn (x - y)
  have n2 := sq_nn (z - t)
  rcases Int.lt_or_le (x + y) 0 with c | c
  · have : (x + y) * (z + t) < 0 := Int.mul_neg_of_neg_of_pos c (by omega)
    omega
  · exact c
theorem pairs {x y z t : Int} (h : IsF [x, y, z, t]) : 0 ≤ x + y ∧ 0 ≤ x + z ∧ 0 ≤ x + t ∧ 0 ≤ y + z ∧ 0 ≤ y + t ∧ 0 ≤ z + t := by
  have e := h.eq4
  have p := h.pos4
  refine ⟨pair_nn e p, pair_nn (x := x) (y := z) (z := y) (t := t) ?_ ?_, pair_nn (x := x) (y := t) (z := y) (t := z) ?_ ?_, pair_nn (x := y) (y := z) (z := x) (t := t) ?_ ?_, pair_nn (x := y) (y := t) (z := x) (t := z) ?_ ?_, pair_nn (x := z) (y := t) (z := x) (t := y) ?_ ?_⟩
  all_goals first | omega | grind
theorem even_sum {b : List Int} (h : IsF b) : ∃ k, b.sum = 2 * k := by
  have e := h.eq
  have d := Int.emod_add_mul_ediv b.sum 2
  have m := Int.emod_two_eq b.sum
  rcases m with m | m
  · exact ⟨b.sum / 2, by omega⟩
  · exfalso
    have e2 : b.sum = 2 * (b.sum / 2) + 1 := by omega
    generalize b.sum / 2 = k at e2
    rw [e2] at e
    have e3 : (2 * k + 1) * (2 * k + 1) = 2 * (2 * (k * k) + 2 * k) + 1 := by grind
    omega
theorem ex_pos {x y z t : Int} (e : 2 * (x * x + y * y + z * z + t * t) = (x + y + z + t) * (x + y + z + t)) (h : 0 < x + y + z + t) : 0 < ex (x + y + z + t) x + y + z + t := by
  unfold ex
  have e1 : (x + y + z + t) * (2 * (x + y + z + t - x) - x + y + z + t) = 2 * ((y + z + t) * (y + z + t)) + 2 * (y * y + z * z + t * t) := by grind
  have n0 := sq_nn (y + z + t)
  have n1 := sq_nn y
  have n2 := sq_nn z
  have n3 := sq_nn t
  rcases Int.lt_or_le 0 (2 * (x + y + z + t - x) - x + y + z + t) with c | c
  · exact c
  · exfalso
    have l : (x + y + z + t) * (2 * (x + y + z + t - x) - x + y + z + t) ≤ 0 := Int.mul_nonpos_of_nonneg_of_nonpos (by omega) c
    have z1 : y * y = 0 := by omega
    have z2 : z * z = 0 := by omega
    have z3 : t * t = 0 := by omega
    have y0 : y = 0 := by rcases Int.mul_eq_zero.mp z1 with q | q <;> exact q
    have z0 : z = 0 := by rcases Int.mul_eq_zero.mp z2 with q | q <;> exact q
    have t0 : t = 0 := by rcases Int.mul_eq_zero.mp z3 with q | q <;> exact q
    subst y0 z0 t0
    have x1 : x * x = 0 := by grind
    have x0 : x = 0 := by rcases Int.mul_eq_zero.mp x1 with q | q <;> exact q
    omega
theorem isF_sw {b : List Int} (h : IsF b) {p : Nat} (hp : p < 4) : IsF (sw b p) := by
  obtain ⟨x, y, z, t, rfl⟩ := four_of h.len
  have e := h.eq4
  have q := h.pos4
  rcases p4 hp with rfl | rfl | rfl | rfl
  · rw [sw0]
    refine isF4 (by unfold ex; grind) (ex_pos e q)
  · rw [sw1]
    refine isF4 (by unfold ex; grind) ?_
    have := ex_pos (x := y) (y := x) (z := z) (t := t) (by grind) (by omega)
    unfold ex at this ⊢
    omega
  · rw [sw2]
    refine isF4 (by unfold ex; grind) ?_
    have := ex_pos (x := z) (y := x) (z := y) (t := t) (by grind) (by omega)
    unfold ex at this ⊢
    omega
  · rw [sw3]
    refine isF4 (by unfold ex; grind) ?_
    have := ex_pos (x := t) (y := x) (z := y) (t := z) (by grind) (by omega)
    unfold ex at this ⊢
    omega
theorem sum_sw {b : List Int} (h : b.length = 4) {p : Nat} (hp : p < 4) : (sw b p).sum = 3 * b.sum - 4 * b.getD p 0 := by
  obtain ⟨x, y, z, t, rfl⟩ := four_of h
  rcases p4 hp with rfl | rfl | rfl | rfl
  · rw [sw0, sum4, sum4, g0]; unfold ex; omega
  · rw [sw1, sum4, sum4, g1]; unfold ex; omega
  · rw [sw2, sum4, sum4, g2]; unfold ex; omega
  · rw [sw3, sum4, sum4, g3]; unfold ex; omega
theorem len_sw {b : List Int} {p : Nat} : (sw b p).length = b.length := by unfold sw; rw [List.length_set]
theorem get_sw {b : List Int} (h : b.length = 4) {p : Nat} (hp : p < 4) : (sw b p).getD p 0 = ex b.sum (b.getD p 0) := by
  obtain ⟨x, y, z, t, rfl⟩ := four_of h
  rcases p4 hp with rfl | rfl | rfl | rfl
  · rw [sw0, sum4]; rfl
  · rw [sw1, sum4]; rfl
  · rw [sw2, sum4]; rfl
  · rw [sw3, sum4]; rfl
theorem get_sw_ne {b : List Int} (h : b.length = 4) {p q : Nat} (hp : p < 4) (hq : q < 4) (n : q ≠ p) : (sw b p).getD q 0 = b.getD q 0 := by
  obtain ⟨x, y, z, t, rfl⟩ := four_of h
  rcases p4 hp with rfl | rfl | rfl | rfl <;> rcases p4 hq with rfl | rfl | rfl | rfl <;> first | exact absurd rfl n | (first | rw [sw0] | rw [sw1] | rw [sw2] | rw [sw3]) <;> rfl
theorem sw_sw {b : List Int} (h : b.length = 4) {p : Nat} (hp : p < 4) : sw (sw b p) p = b := by
  obtain ⟨x, y, z, t, rfl⟩ := four_of h
  rcases p4 hp with rfl | rfl | rfl | rfl
  · rw [sw0, sw0]; congr 1; unfold ex; omega
  · rw [sw1, sw1]; congr 2; unfold ex; omega
  · rw [sw2, sw2]; congr 3; unfold ex; omega
  · rw [sw3, sw3]; congr 4; unfold ex; omega
theorem sw_same {b : List Int} (h : b.length = 4) {p : Nat} (hp : p < 4) (e : ex b.sum (b.getD p 0) = b.getD p 0) : sw b p = b := by
  obtain ⟨x, y, z, t, rfl⟩ := four_of h
  rw [sum4] at e
  rcases p4 hp with rfl | rfl | rfl | rfl
  · rw [g0] at e; rw [sw0, e]
  · rw [g1] at e; rw [sw1, e]
  · rw [g2] at e; rw [sw2, e]
  · rw [g3] at e; rw [sw3, e]
/-! turning -/
theorem isF_tn {b : List Int} (h : IsF b) {p : Nat} (hp : p < 4) (q : 0 < b.sum + 4 * b.getD p 0) : IsF (tn b p) := by
  obtain ⟨x, y, z, t, rfl⟩ := four_of h.len
  have e := h.eq4
  rw [sum4] at q
  rcases p4 hp with rfl | rfl | rfl | rfl
  · rw [g0] at q; rw [tn0]; exact isF4 (by grind) (by omega)
  · rw [g1] at q; rw [tn1]; exact isF4 (by grind) (by omega)
  · rw [g2] at q; rw [tn2]; exact isF4 (by grind) (by omega)
  · rw [g3] at q; rw [tn3]; exact isF4 (by grind) (by omega)
theorem sum_tn {b : List Int} (h : b.length = 4) {p : Nat} (hp : p < 4) : (tn b p).sum = b.sum + 4 * b.getD p 0 := by
  obtain ⟨x, y, z, t, rfl⟩ := four_of h
  rcases p4 hp with rfl | rfl | rfl | rfl
  · rw [tn0, sum4, sum4, g0]; omega
  · rw [tn1, sum4, sum4, g1]; omega
  · rw [tn2, sum4, sum4, g2]; omega
  · rw [tn3, sum4, sum4, g3]; omega
theorem len_tn {b : List Int} {p : Nat} : (tn b p).length = b.length := by unfold tn; rw [List.length_set, List.length_map]
theorem tn_sw {b : List Int} (h : b.length = 4) {p q : Nat} (hp : p < 4) (hq : q < 4) (n : p ≠ q) : tn (sw b q) p = sw (tn b p) q := by
  obtain ⟨x, y, z, t, rfl⟩ := four_of h
  rcases p4 hp with rfl | rfl | rfl | rfl <;> rcases p4 hq with rfl | rfl | rfl | rfl <;> first | exact absurd rfl n | skip
  · rw [sw1, tn0, tn0, sw1]; simp only [ex, List.cons.injEq, and_true, true_and]; omega
  · rw [sw2, tn0, tn0, sw2]; simp only [ex, List.cons.injEq, and_true, true_and]; omega
  · rw [sw3, tn0, tn0, sw3]; simp only [ex, List.cons.injEq, and_true, true_and]; omega
  · rw [sw0, tn1, tn1, sw0]; simp only [ex, List.cons.injEq, and_true, true_and]; omega
  · rw [sw2, tn1, tn1, sw2]; simp only [ex, List.cons.injEq, and_true, true_and]; omega
  · rw [sw3, tn1, tn1, sw3]; simp only [ex, List.cons.injEq, and_true, true_and]; omega
  · rw [sw0, tn2, tn2, sw0]; simp only [ex, List.cons.injEq, and_true, true_and]; omega
  · rw [sw1, tn2, tn2, sw1]; simp only [ex, List.cons.injEq, and_true, true_and]; omega
  · rw [sw3, tn2, tn2, sw3]; simp only [ex, List.cons.injEq, and_true, true_and]; omega
  · rw [sw0, tn3, tn3, sw0]; simp only [ex, List.cons.injEq, and_true, true_and]; omega
  · rw [sw1, tn3, tn3, sw1]; simp only [ex, List.cons.injEq, and_true, true_and]; omega
  · rw [sw2, tn3, tn3, sw2]; simp only [ex, List.cons.injEq, and_true, true_and]; omega
/-! the place that is let out -/
def lowP (b : List Int) : Option Nat :=
  if b.sum < 2 * b.getD 0 0 then some 0 else if b.sum < 2 * b.getD 1 0 then some 1 else if b.sum < 2 * b.getD 2 0 then some 2 else if b.sum < 2 * b.getD 3 0 then some 3 else none
theorem lowP_lt {b : List Int} {p : Nat} (h : lowP b = some p) : p < 4 ∧ b.sum < 2 * b.getD p 0 := by
  unfold lowP at h
  split at h
  · cases h; exact ⟨by decide, by assumption⟩
  · split at h
    · cases h; exact ⟨by decide, by assumption⟩
    · split at h
      · cases h; exact ⟨by decide, by assumption⟩
      · split at h
        · cases h; exact ⟨by decide, by assumption⟩
        · cases h
theorem lowP_none {b : List Int} (h : lowP b = none) {p : Nat} (hp : p < 4) : ¬ b.sum < 2 * b.getD p 0 := by
  unfold lowP at h
  split at h
  · cases h
  · split at h
    · cases h
    · split at h
      · cases h
      · split at h
        · cases h
        · rcases p4 hp with rfl | rfl | rfl | rfl <;> assumption
theorem one_low {b : List Int} (h : IsF b) {p q : Nat} (hp : p < 4) (hq : q < 4) (n : q ≠ p) (l : b.sum < 2 * b.getD p 0) : 2 * b.getD q 0 < b.sum ∧ b.getD q 0 < b.getD p 0 := by
  obtain ⟨x, y, z, t, rfl⟩ := four_of h.len
  obtain ⟨a1, a2, a3, a4, a5, a6⟩ := pairs h
  rw [sum4] at l ⊢
  rcases p4 hp with rfl | rfl | rfl | rfl <;> rcases p4 hq with rfl | rfl | rfl | rfl <;> simp only [g0, g1, g2, g3] at l ⊢ <;> first | exact absurd rfl n | omega
theorem lowP_some {b : List Int} (h : IsF b) {p : Nat} (hp : p < 4) (l : b.sum < 2 * b.getD p 0) : lowP b = some p := by
  cases e : lowP b with
  | none => exact absurd l (lowP_none e hp)
  | some q =>
    obtain ⟨hq, lq⟩ := lowP_lt e
    by_cases n : q = p
    · rw [n]
    · have := (one_low h hp hq n l).1
      omega
/-- k exchanges lead down from a four to its least one -/
inductive Dn : List Int → Nat → List Int → Prop
  | stop {b : List Int} (h : lowP b = none) : Dn b 0 b
  | step {b l : List Int} {k p : Nat} (h : lowP b = some p) (d : Dn (sw b p) k l) : Dn b (k + 1) l
theorem Dn.uniq {b l l' : List Int} {k k' : Nat} (d : Dn b k l) (d' : Dn b k' l') : k = k' ∧ l = l' := by
  induction d generalizing k' l' with
  | stop h =>
    cases d' with
    | stop h' => exact ⟨rfl, rfl⟩
    | step h' d' => rw [h] at h'; cases h'
  | step h d ih =>
    cases d' with
    | stop h' => rw [h] at h'; cases h'
    | step h' d' =>
      rw [h] at h'
      cases h'
      obtain ⟨e1, e2⟩ := ih d'
      exact ⟨by rw [e1], e2⟩
theorem dn_ex : ∀ (n : Nat) {b : List Int}, IsF b → b.sum.toNat ≤ n → ∃ k l, Dn b k l ∧ 4 * (k : Int) < b.sum ∧ IsF l ∧ lowP l = none := by
  intro n
  induction n with
  | zero =>
    intro b h hn
    have := h.pos
    omega
  | succ n ih =>
    intro b h hn
    cases e : lowP b with
    | none => exact ⟨0, b, .stop e, by have := h.pos; omega, h, e⟩
    | some p =>
      obtain ⟨hp, l⟩ := lowP_lt e
      obtain ⟨m, hm⟩ := even_sum h
      have hs := sum_sw h.len hp
      have h' := isF_sw h hp
      have hpos := h'.pos
      obtain ⟨k, l', d, hk, f, g⟩ := ih h' (by omega)
      exact ⟨k + 1, l', .step e d, by omega, f, g⟩
theorem IsF.dn {b : List Int} (h : IsF b) : ∃ k l, Dn b k l ∧ 4 * (k : Int) < b.sum ∧ IsF l ∧ lowP l = none := dn_ex _ h (Nat.le_refl _)
theorem Dn.isF {b l : List Int} {k : Nat} (h : IsF b) (d : Dn b k l) : IsF l ∧ lowP l = none ∧ 4 * (k : Int) < b.sum := by
  obtain ⟨k', l', d', a, f, g⟩ := h.dn
  obtain ⟨e1, e2⟩ := d.uniq d'
  subst e1 e2
  exact ⟨f, g, a⟩
theorem dn_sw {b l : List Int} {k q : Nat} (h : IsF b) (d : Dn b k l) (hq : q < 4) : ∃ k', Dn (sw b q) k' l ∧ k' ≤ k + 1 := by
  have hs := sum_sw h.len hq
  have hg := get_sw h.len hq
  have e : ex b.sum (b.getD q 0) = 2 * (b.sum - b.getD q 0) - b.getD q 0 := rfl
  rcases Int.lt_trichotomy (ex b.sum (b.getD q 0)) (b.getD q 0) with c | c | c
  · have lo := lowP_some h hq (by omega)
    cases d with
    | stop h' => rw [lo] at h'; cases h'
    | step h' d =>
      rw [lo] at h'
      cases h'
      exact ⟨_, d, by omega⟩
  · rw [sw_same h.len hq c]
    exact ⟨k, d, by omega⟩
  · have lo := lowP_some (isF_sw h hq) hq (by rw [hs, hg]; omega)
    refine ⟨k + 1, .step lo ?_, Nat.le_refl _⟩
    rw [sw_sw h.len hq]
    exact d
end BS
namespace BS
/-! the rising tree below a bound -/
def Rise (w : Int) (b : List Int) (p : Nat) : Prop := b.getD p 0 < ex b.sum (b.getD p 0) ∧ ex b.sum (b.getD p 0) ≤ w
instance (w : Int) (b : List Int) (p : Nat) : Decidable (Rise w b p) := inferInstanceAs (Decidable (_ ∧ _))
inductive Tr (w : Int) (r : List Int) : List Int → Prop
  | root : Tr w r r
  | step {b : List Int} {p : Nat} (h : Tr w r b) (hp : p < 4) (u : Rise w b p) : Tr w r (sw b p)
/-- what is found: the root at its places, else the place that has just risen -/
def Fnd (w : Int) (r : List Int) (x : List Int × Nat) : Prop :=
  x.2 < 4 ∧ ((x.1 = r ∧ r.getD x.2 0 = w) ∨ ∃ b, Tr w r b ∧ Rise w b x.2 ∧ x.1 = sw b x.2 ∧ ex b.sum (b.getD x.2 0) = w)
theorem Tr.isF {w : Int} {r b : List Int} (h : Tr w r b) (f : IsF r) : IsF b := by
  induction h with
  | root => exact f
  | step h hp u ih => exact isF_sw ih hp
theorem Fnd.tr {w : Int} {r : List Int} {x : List Int × Nat} (h : Fnd w r x) (f : IsF r) : Tr w r x.1 ∧ x.2 < 4 ∧ x.1.getD x.2 0 = w := by
  obtain ⟨hp, ⟨e, g⟩ | ⟨b, t, u, e, g⟩⟩ := h
  · rw [e]; exact ⟨.root, hp, g⟩
  · rw [e]
    exact ⟨.step t hp u, hp, by rw [get_sw (t.isF f).len hp]; exact g⟩
/-- closed under every exchange that stays within the bound -/
theorem Tr.closed {w : Int} {r b : List Int} (f : IsF r) (l : lowP r = none) (h : Tr w r b) {q : Nat} (hq : q < 4) (u : ex b.sum (b.getD q 0) ≤ w) : Tr w r (sw b q) := by
  have fb := h.isF f
  have e : ex b.sum (b.getD q 0) = 2 * (b.sum - b.getD q 0) - b.getD q 0 := rfl
  rcases Int.lt_trichotomy (b.getD q 0) (ex b.sum (b.getD q 0)) with c | c | c
  · exact .step h hq ⟨c, u⟩
  · rw [sw_same fb.len hq c.symm]
    exact h
  · have lo := lowP_some fb hq (by omega)
    cases h with
    | root => rw [l] at lo; cases lo
    | step h hp v =>
      rename_i b p
      have fb' := h.isF f
      have lo2 := lowP_some fb hp (by rw [sum_sw fb'.len hp, get_sw fb'.len hp]; have := v.1; unfold ex at this ⊢; omega)
      rw [lo] at lo2
      cases lo2
      rw [sw_sw fb'.len hp]
      exact h
/-- every four with the bend at a place gives what a found one gives -/
theorem Tr.found {w : Int} {r b : List Int} (f : IsF r) (hw : 0 < w) (h : Tr w r b) {p : Nat} (hp : p < 4) (e : b.getD p 0 = w) :
    ∃ c, Fnd w r (c, p) ∧ ∀ k l, Dn (tn c p) k l → ∃ k', Dn (tn b p) k' l := by
  induction h with
  | root => exact ⟨r, ⟨hp, .inl ⟨rfl, e⟩⟩, fun k l d => ⟨k, d⟩⟩
  | step h hq u ih =>
    rename_i b q
    have fb := h.isF f
    by_cases n : p = q
    · subst n
      refine ⟨sw b p, ⟨hp, .inr ⟨b, h, u, rfl, ?_⟩⟩, fun k l d => ⟨k, d⟩⟩
      rw [get_sw fb.len hp] at e
      exact e
    · rw [get_sw_ne fb.len hq hp n] at e
      obtain ⟨c, hc, g⟩ := ih e
      refine ⟨c, hc, fun k l d => ?_⟩
      obtain ⟨k', d'⟩ := g k l d
      rw [tn_sw fb.len hp hq n]
      have ft : IsF (tn b p) := isF_tn fb hp (by have := fb.pos; omega)
      obtain ⟨k2, d2, _⟩ := dn_sw ft d' hq
      exact ⟨k2, d2⟩
/-- what comes of turning: by what is found, and by all fours -/
def Res (w : Int) (r l : List Int) : Prop := ∃ x k, Fnd w r x ∧ Dn (tn x.1 x.2) k l
def ResA (w : Int) (r l : List Int) : Prop := ∃ b p k, Tr w r b ∧ p < 4 ∧ b.getD p 0 = w ∧ Dn (tn b p) k l
theorem res_iff {w : Int} {r l : List Int} (f : IsF r) (hw : 0 < w) : Res w r l ↔ ResA w r l := by
  constructor
  · rintro ⟨x, k, h, d⟩
    obtain ⟨t, hp, e⟩ := h.tr f
    exact ⟨x.1, x.2, k, t, hp, e, d⟩
  · rintro ⟨b, p, k, t, hp, e, d⟩
    obtain ⟨c, hc, g⟩ := t.found f hw hp e
    obtain ⟨_, _, _⟩ := hc.tr f
    have fc : IsF c := (hc.tr f).1.isF f
    have fe : c.getD p 0 = w := (hc.tr f).2.2
    have ft : IsF (tn c p) := isF_tn fc hp (by have := fc.pos; omega)
    obtain ⟨k1, l1, d1, _⟩ := ft.dn
    obtain ⟨k2, d2⟩ := g k1 l1 d1
    obtain ⟨_, e2⟩ := d2.uniq d
    rw [← e2]
    exact ⟨(c, p), k1, hc, d1⟩
/-! the tree as a list -/
def tr : Nat → Int → List Int → List (List Int × Nat)
  | 0, _, _ => []
  | n + 1, w, b => (List.range 4).flatMap fun p => if Rise w b p then (sw b p, p) :: tr n w (sw b p) else []
def phi (w : Int) (b : List Int) : Nat := (w - b.getD 0 0).toNat + (w - b.getD 1 0).toNat + (w - b.getD 2 0).toNat + (w - b.getD 3 0).toNat
theorem phi_lt {w : Int} {b : List Int} (h : b.length = 4) {p : Nat} (hp : p < 4) (u : Rise w b p) : phi w (sw b p) < phi w b := by
  obtain ⟨x, y, z, t, rfl⟩ := four_of h
  obtain ⟨u1, u2⟩ := u
  rw [sum4] at u1 u2
  unfold phi
  rcases p4 hp with rfl | rfl | rfl | rfl
  · rw [sw0]; simp only [g0, g1, g2, g3] at *; omega
  · rw [sw1]; simp only [g0, g1, g2, g3] at *; omega
  · rw [sw2]; simp only [g0, g1, g2, g3] at *; omega
  · rw [sw3]; simp only [g0, g1, g2, g3] at *; omega
theorem tr_more : ∀ (n : Nat) {m : Nat} {w : Int} {b : List Int}, b.length = 4 → phi w b ≤ n → phi w b ≤ m → tr n w b = tr m w b
  | 0, 0, _, _, _, _, _ => rfl
  | 0, m + 1, w, b, h, hn, hm => by
    have no : ∀ p, p < 4 → ¬ Rise w b p := fun p hp u => by have := phi_lt h hp u; omega
    show [] = (List.range 4).flatMap fun p => if Rise w b p then (sw b p, p) :: tr m w (sw b p) else []
    symm
    rw [List.flatMap_eq_nil_iff]
    intro p hp
    rw [if_neg (no p (List.mem_range.mp hp))]
  | n + 1, 0, w, b, h, hn, hm => by
    have no : ∀ p, p < 4 → ¬ Rise w b p := fun p hp u => by have := phi_lt h hp u; omega
    show ((List.range 4).flatMap fun p => if Rise w b p then (sw b p, p) :: tr n w (sw b p) else []) = []
    rw [List.flatMap_eq_nil_iff]
    intro p hp
    rw [if_neg (no p (List.mem_range.mp hp))]
  | n + 1, m + 1, w, b, h, hn, hm => by
    show ((List.range 4).flatMap fun p => if Rise w b p then (sw b p, p) :: tr n w (sw b p) else []) = (List.range 4).flatMap fun p => if Rise w b p then (sw b p, p) :: tr m w (sw b p) else []
    have e : ∀ p ∈ List.range 4, (if Rise w b p then (sw b p, p) :: tr n w (sw b p) else []) = (if Rise w b p then (sw b p, p) :: tr m w (sw b p) else []) := fun p hp => by
      by_cases u : Rise w b p
      · rw [if_pos u, if_pos u]
        have := phi_lt h (List.mem_range.mp hp) u
        rw [tr_more n (m := m) (by rw [len_sw]; exact h) (by omega) (by omega)]
      · rw [if_neg u, if_neg u]
    rw [List.flatMap_def, List.flatMap_def, List.map_congr_left e]
def T (w : Int) (b : List Int) : List (List Int × Nat) := tr (phi w b) w b
theorem T_eq {w : Int} {b : List Int} (h : b.length = 4) : T w b = (List.range 4).flatMap fun p => if Rise w b p then (sw b p, p) :: T w (sw b p) else [] := by
  unfold T
  rw [tr_more (phi w b) (m := phi w b + 1) h (Nat.le_refl _) (Nat.le_succ _)]
  show ((List.range 4).flatMap fun p => if Rise w b p then (sw b p, p) :: tr (phi w b) w (sw b p) else []) = _
  have e : ∀ p ∈ List.range 4, (if Rise w b p then (sw b p, p) :: tr (phi w b) w (sw b p) else []) = (if Rise w b p then (sw b p, p) :: tr (phi w (sw b p)) w (sw b p) else []) := fun p hp => by
    by_cases u : Rise w b p
    · rw [if_pos u, if_pos u]
      have := phi_lt h (List.mem_range.mp hp) u
      rw [tr_more (phi w b) (m := phi w (sw b p)) (by rw [len_sw]; exact h) (by omega) (Nat.le_refl _)]
    · rw [if_neg u, if_neg u]
  rw [List.flatMap_def, List.flatMap_def, List.map_congr_left e]
theorem mem_T {w : Int} {b : List Int} (h : b.length = 4) {x : List Int × Nat} : x ∈ T w b ↔ ∃ p, p < 4 ∧ Rise w b p ∧ (x = (sw b p, p) ∨ x ∈ T w (sw b p)) := by
  rw [T_eq h, List.mem_flatMap]
  constructor
  · rintro ⟨p, hp, hx⟩
    by_cases u : Rise w b p
    · rw [if_pos u] at hx
      exact ⟨p, List.mem_range.mp hp, u, List.mem_cons.mp hx⟩
    · rw [if_neg u] at hx
      cases hx
  · rintro ⟨p, hp, u, hx⟩
    refine ⟨p, List.mem_range.mpr hp, ?_⟩
    rw [if_pos u]
    exact List.mem_cons.mpr hx
/-- below a four of the tree all is of the tree -/
theorem T_sub : ∀ (n : Nat) {w : Int} {b : List Int} {x y : List Int × Nat}, phi w b ≤ n → b.length = 4 → x ∈ T w b → y ∈ T w x.1 → y ∈ T w b := by
  intro n
  induction n with
  | zero =>
    intro w b x y hn h hx _
    obtain ⟨p, hp, u, _⟩ := (mem_T h).mp hx
    have := phi_lt h hp u
    omega
  | succ n ih =>
    intro w b x y hn h hx hy
    obtain ⟨p, hp, u, hx⟩ := (mem_T h).mp hx
    have l := phi_lt h hp u
    refine (mem_T h).mpr ⟨p, hp, u, .inr ?_⟩
    rcases hx with rfl | hx
    · exact hy
    · exact ih (by omega) (by rw [len_sw]; exact h) hx hy
theorem Tr.mem {w : Int} {r b : List Int} (hr : r.length = 4) (h : Tr w r b) : b.length = 4 ∧ (b = r ∨ ∃ p, (b, p) ∈ T w r) := by
  induction h with
  | root => exact ⟨hr, .inl rfl⟩
  | step h hp u ih =>
    rename_i b p
    obtain ⟨hb, c⟩ := ih
    refine ⟨by rw [len_sw]; exact hb, .inr ⟨p, ?_⟩⟩
    have here : (sw b p, p) ∈ T w b := (mem_T hb).mpr ⟨p, hp, u, .inl rfl⟩
    rcases c with rfl | ⟨q, c⟩
    · exact here
    · exact T_sub _ (Nat.le_refl _) hr c here
theorem T_tr : ∀ (n : Nat) {w : Int} {r b : List Int} {x : List Int × Nat}, phi w b ≤ n → b.length = 4 → Tr w r b → x ∈ T w b → ∃ c, Tr w r c ∧ x.2 < 4 ∧ Rise w c x.2 ∧ x.1 = sw c x.2 := by
  intro n
  induction n with
  | zero =>
    intro w r b x hn h t hx
    obtain ⟨p, hp, u, _⟩ := (mem_T h).mp hx
    have := phi_lt h hp u
    omega
  | succ n ih =>
    intro w r b x hn h t hx
    obtain ⟨p, hp, u, hx⟩ := (mem_T h).mp hx
    have l := phi_lt h hp u
    rcases hx with rfl | hx
    · exact ⟨b, t, hp, u, rfl⟩
    · exact ih (by omega) (by rw [len_sw]; exact h) (.step t hp u) hx
/-! what the loop finds below a four -/
def F (w : Int) (b : List Int) : List (List Int × Nat) := (T w b).filter fun x => decide (x.1.getD x.2 0 = w)
def rootF (w : Int) (r : List Int) : List (List Int × Nat) := ((List.range 4).filter fun p => decide (r.getD p 0 = w)).map fun p => (r, p)
theorem fnd_iff {w : Int} {r : List Int} (f : IsF r) {x : List Int × Nat} : Fnd w r x ↔ x ∈ rootF w r ++ F w r := by
  rw [List.mem_append]
  constructor
  · rintro ⟨hp, ⟨e, g⟩ | ⟨b, t, u, e, g⟩⟩
    · left
      refine List.mem_map.mpr ⟨x.2, List.mem_filter.mpr ⟨List.mem_range.mpr hp, decide_eq_true g⟩, ?_⟩
      rw [← e]
    · right
      have fb := t.isF f
      refine List.mem_filter.mpr ⟨?_, decide_eq_true ?_⟩
      · have here : (sw b x.2, x.2) ∈ T w b := (mem_T fb.len).mpr ⟨x.2, hp, u, .inl rfl⟩
        have ex' : x = (sw b x.2, x.2) := by rw [← e]
        rw [ex']
        rcases (t.mem f.len).2 with c | ⟨q, c⟩
        · rw [← c]; exact here
        · exact T_sub _ (Nat.le_refl _) f.len c here
      · rw [e, get_sw fb.len hp]
        exact g
  · rintro (h | h)
    · obtain ⟨p, hp, e⟩ := List.mem_map.mp h
      obtain ⟨h1, h2⟩ := List.mem_filter.mp hp
      subst e
      exact ⟨List.mem_range.mp h1, .inl ⟨rfl, of_decide_eq_true h2⟩⟩
    · obtain ⟨h1, h2⟩ := List.mem_filter.mp h
      obtain ⟨c, t, hp, u, e⟩ := T_tr _ (Nat.le_refl _) f.len .root h1
      have h3 := of_decide_eq_true h2
      refine ⟨hp, .inr ⟨c, t, u, e, ?_⟩⟩
      rw [e, get_sw (t.isF f).len hp] at h3
      exact h3
/-- one turn: what is put down, what is pushed -/
def putA (w : Int) (b : List Int) (n : Nat) : List (List Int × Nat) := (List.range n).flatMap fun p => if Rise w b p ∧ ex b.sum (b.getD p 0) = w then [(sw b p, p)] else []
def putB (w : Int) (b : List Int) (n : Nat) : List (List Int) := (List.range n).flatMap fun p => if Rise w b p then [sw b p] else []
theorem flat_app {α β : Type} (f g : α → List β) : ∀ l : List α, (l.flatMap f ++ l.flatMap g).Perm (l.flatMap fun x => f x ++ g x)
  | [] => List.Perm.refl _
  | a :: l => by
    rw [List.flatMap_cons, List.flatMap_cons, List.flatMap_cons]
    have ih := flat_app f g l
    refine List.Perm.trans ?_ (List.Perm.append_left (f a ++ g a) ih)
    rw [List.append_assoc, List.append_assoc]
    refine List.Perm.append_left _ ?_
    rw [← List.append_assoc, ← List.append_assoc]
    exact List.Perm.append_right _ List.perm_append_comm
theorem turn_perm {w : Int} {b : List Int} (h : b.length = 4) : (putA w b 4 ++ (putB w b 4).flatMap (F w)).Perm (F w b) := by
  have e1 : (putB w b 4).flatMap (F w) = (List.range 4).flatMap fun p => if Rise w b p then F w (sw b p) else [] := by
    unfold putB
    rw [List.flatMap_assoc]
    congr 1
    funext p
    by_cases u : Rise w b p
    · rw [if_pos u, if_pos u]; simp
    · rw [if_neg u, if_neg u]; rfl
  have e2 : F w b = (List.range 4).flatMap fun p => (if Rise w b p ∧ ex b.sum (b.getD p 0) = w then [(sw b p, p)] else []) ++ (if Rise w b p then F w (sw b p) else []) := by
    unfold F
    rw [T_eq h, List.filter_flatMap]
    rw [List.flatMap_def, List.flatMap_def]
    congr 1
    refine List.map_congr_left fun p hp => ?_
    have hp' := List.mem_range.mp hp
    show List.filter _ (if Rise w b p then (sw b p, p) :: T w (sw b p) else []) = _
    by_cases u : Rise w b p
    · rw [if_pos u, if_pos u]
      by_cases c : ex b.sum (b.getD p 0) = w
      · rw [if_pos ⟨u, c⟩, List.filter_cons_of_pos (by rw [get_sw h hp']; exact decide_eq_true c)]
        rfl
      · rw [if_neg (fun q => c q.2), List.filter_cons_of_neg (by rw [get_sw h hp', decide_eq_true_eq]; exact c)]
        rfl
    · rw [if_neg u, if_neg u, if_neg (fun q => u q.1)]
      rfl
  rw [e1, e2]
  exact flat_app _ _ _
/-- the work that is left -/
def work (w : Int) (ls : List (List Int)) : Nat := (ls.map fun b => 1 + (T w b).length).sum
theorem putB_work {w : Int} {b : List Int} (h : b.length = 4) : work w (putB w b 4) = (T w b).length := by
  unfold work putB
  rw [T_eq h]
  generalize List.range 4 = l
  induction l with
  | nil => rfl
  | cons p l ih =>
    rw [List.flatMap_cons, List.flatMap_cons, List.map_append, List.sum_append_nat, ih, List.length_append]
    congr 1
    by_cases u : Rise w b p
    · rw [if_pos u, if_pos u]
      simp [Nat.add_comm]
    · rw [if_neg u, if_neg u]
      rfl
theorem work_app (w : Int) (xs ys : List (List Int)) : work w (xs ++ ys) = work w xs + work w ys := by
  unfold work
  rw [List.map_append, List.sum_append_nat]
/-! lengths grow with the bound -/
theorem len_mono : ∀ (n : Nat) {w v : Int} {b : List Int}, phi v b ≤ n → b.length = 4 → w ≤ v → (T w b).length ≤ (T v b).length := by
  intro n
  induction n with
  | zero =>
    intro w v b hn h hv
    have no : ∀ p, p < 4 → ¬ Rise w b p := fun p hp u => by have := phi_lt h hp (show Rise v b p from ⟨u.1, Int.le_trans u.2 hv⟩); omega
    have e : T w b = [] := by
      rw [T_eq h, List.flatMap_eq_nil_iff]
      intro p hp
      rw [if_neg (no p (List.mem_range.mp hp))]
    rw [e]
    exact Nat.zero_le _
  | succ n ih =>
    intro w v b hn h hv
    rw [T_eq h, T_eq (w := v) h, List.length_flatMap, List.length_flatMap]
    have key : ∀ l : List Nat, (∀ p ∈ l, p < 4) → (l.map fun p => (if Rise w b p then (sw b p, p) :: T w (sw b p) else []).length).sum ≤ (l.map fun p => (if Rise v b p then (sw b p, p) :: T v (sw b p) else []).length).sum := by
      intro l
      induction l with
      | nil => intro _; exact Nat.le_refl _
      | cons p l ihl =>
        intro hl
        rw [List.map_cons, List.map_cons, List.sum_cons, List.sum_cons]
        refine Nat.add_le_add ?_ (ihl fun q hq => hl q (List.mem_cons_of_mem _ hq))
        by_cases u : Rise w b p
        · have u' : Rise v b p := ⟨u.1, Int.le_trans u.2 hv⟩
          rw [if_pos u, if_pos u', List.length_cons, List.length_cons]
          have := phi_lt h (hl p List.mem_cons_self) u'
          exact Nat.succ_le_succ (ih (by omega) (by rw [len_sw]; exact h) hv)
        · rw [if_neg u]
          exact Nat.zero_le _
    exact key _ fun p hp => List.mem_range.mp hp
end BS
namespace BS
/-! the order of places -/
theorem set_perm (b : List Int) {p : Nat} (h : p < b.length) (v : Int) : (b.set p v).Perm (v :: b.eraseIdx p) := by
  rw [List.set_eq_take_append_cons_drop, if_pos h, List.eraseIdx_eq_take_drop_succ]
  exact List.perm_middle
theorem get_perm (b : List Int) {p : Nat} (h : p < b.length) : b.Perm (b.getD p 0 :: b.eraseIdx p) := by
  have e : b.set p (b.getD p 0) = b := by
    rw [List.getD_eq_getElem?_getD, List.getElem?_eq_getElem h]
    simp
  have := set_perm b h (b.getD p 0)
  rw [e] at this
  exact this
theorem sum_perm {b c : List Int} (h : b.Perm c) : b.sum = c.sum := by
  induction h with
  | nil => rfl
  | cons x _ ih => rw [List.sum_cons, List.sum_cons, ih]
  | swap x y l => simp only [List.sum_cons]; omega
  | trans _ _ a b => rw [a, b]
theorem sq_perm {b c : List Int} (h : b.Perm c) : sq b = sq c := sum_perm (h.map _)
theorem IsF.perm {b c : List Int} (f : IsF b) (h : b.Perm c) : IsF c :=
  ⟨h.length_eq ▸ f.len, by rw [← sq_perm h, ← sum_perm h]; exact f.eq, by rw [← sum_perm h]; exact f.pos⟩
/-- the place of the same bend in the other order -/
theorem place_of {b c : List Int} (h : b.Perm c) (hl : b.length = 4) {p : Nat} (hp : p < 4) : ∃ q, q < 4 ∧ c.getD q 0 = b.getD p 0 := by
  have m : b.getD p 0 ∈ c := by
    refine h.mem_iff.mp ?_
    rw [List.getD_eq_getElem?_getD, List.getElem?_eq_getElem (by omega)]
    exact List.getElem_mem _
  obtain ⟨q, hq, e⟩ := List.getElem_of_mem m
  refine ⟨q, by rw [← hl, h.length_eq]; exact hq, ?_⟩
  rw [List.getD_eq_getElem?_getD, List.getElem?_eq_getElem hq]
  exact e
theorem rest_perm {b c : List Int} (h : b.Perm c) (hl : b.length = 4) {p q : Nat} (hp : p < 4) (hq : q < 4) (e : c.getD q 0 = b.getD p 0) : (b.eraseIdx p).Perm (c.eraseIdx q) := by
  have h1 := get_perm b (p := p) (by omega)
  have h2 := get_perm c (p := q) (by rw [← h.length_eq]; omega)
  rw [e] at h2
  exact (h1.symm.trans (h.trans h2)).cons_inv
theorem sw_perm {b c : List Int} (h : b.Perm c) (hl : b.length = 4) {p q : Nat} (hp : p < 4) (hq : q < 4) (e : c.getD q 0 = b.getD p 0) : (sw b p).Perm (sw c q) := by
  unfold sw
  refine (set_perm b (by omega) _).trans (List.Perm.trans ?_ (set_perm c (by rw [← h.length_eq]; omega) _).symm)
  rw [e, sum_perm h]
  exact (rest_perm h hl hp hq e).cons _
theorem eraseIdx_map (f : Int → Int) : ∀ (l : List Int) (i : Nat), (l.map f).eraseIdx i = (l.eraseIdx i).map f
  | [], _ => rfl
  | a :: l, 0 => rfl
  | a :: l, i + 1 => by
    show f a :: (l.map f).eraseIdx i = f a :: (l.eraseIdx i).map f
    rw [eraseIdx_map f l i]
theorem tn_perm {b c : List Int} (h : b.Perm c) (hl : b.length = 4) {p q : Nat} (hp : p < 4) (hq : q < 4) (e : c.getD q 0 = b.getD p 0) : (tn b p).Perm (tn c q) := by
  unfold tn
  refine (set_perm _ (by rw [List.length_map]; omega) _).trans (List.Perm.trans ?_ (set_perm _ (by rw [List.length_map, ← h.length_eq]; omega) _).symm)
  rw [e, eraseIdx_map, eraseIdx_map]
  exact ((rest_perm h hl hp hq e).map _).cons _
theorem rise_perm {w : Int} {b c : List Int} (h : b.Perm c) {p q : Nat} (e : c.getD q 0 = b.getD p 0) (u : Rise w b p) : Rise w c q := by
  unfold Rise at u ⊢
  rw [e, ← sum_perm h]
  exact u
theorem Tr.perm {w : Int} {r s b : List Int} (h : r.Perm s) (hl : r.length = 4) (t : Tr w r b) : ∃ c, b.Perm c ∧ Tr w s c ∧ b.length = 4 := by
  induction t with
  | root => exact ⟨s, h, .root, hl⟩
  | step t hp u ih =>
    obtain ⟨c, hc, tc, hb⟩ := ih
    obtain ⟨q, hq, e⟩ := place_of hc hb hp
    exact ⟨sw c q, sw_perm hc hb hp hq e, .step tc hq (rise_perm hc e u), by rw [len_sw]; exact hb⟩
theorem lowP_perm {b c : List Int} (h : b.Perm c) (f : IsF b) {p : Nat} (l : lowP b = some p) : ∃ q, lowP c = some q ∧ q < 4 ∧ p < 4 ∧ c.getD q 0 = b.getD p 0 := by
  obtain ⟨hp, hl⟩ := lowP_lt l
  obtain ⟨q, hq, e⟩ := place_of h f.len hp
  exact ⟨q, lowP_some (f.perm h) hq (by rw [e, ← sum_perm h]; exact hl), hq, hp, e⟩
theorem lowP_none_perm {b c : List Int} (h : b.Perm c) (f : IsF b) (l : lowP b = none) : lowP c = none := by
  cases e : lowP c with
  | none => rfl
  | some q =>
    obtain ⟨p, hp, _⟩ := lowP_perm h.symm (f.perm h) e
    rw [l] at hp
    cases hp
theorem Dn.perm {b l : List Int} {k : Nat} (d : Dn b k l) : ∀ {c : List Int}, b.Perm c → IsF b → ∃ m, Dn c k m ∧ l.Perm m := by
  induction d with
  | stop h => intro c hc f; exact ⟨c, .stop (lowP_none_perm hc f h), hc⟩
  | step h d ih =>
    intro c hc f
    obtain ⟨q, hq, q4, p4', e⟩ := lowP_perm hc f h
    obtain ⟨m, hm, pm⟩ := ih (sw_perm hc f.len p4' q4 e) (isF_sw f p4')
    exact ⟨m, .step hq hm, pm⟩
/-- what comes of turning does not hang on the order of places -/
theorem ResA.perm {w : Int} {r s l : List Int} (h : r.Perm s) (f : IsF r) (hw : 0 < w) (q : ResA w r l) : ∃ m, ResA w s m ∧ l.Perm m := by
  obtain ⟨b, p, k, t, hp, e, d⟩ := q
  obtain ⟨c, hc, tc, hb⟩ := t.perm h f.len
  obtain ⟨i, hi, ei⟩ := place_of hc hb hp
  have fb := t.isF f
  have ft : IsF (tn b p) := isF_tn fb hp (by have := fb.pos; omega)
  obtain ⟨m, hm, pm⟩ := d.perm (tn_perm hc hb hp hi ei) ft
  exact ⟨m, ⟨c, i, k, tc, hi, by rw [ei]; exact e, hm⟩, pm⟩
/-- how many fours the tree has does not hang on it -/
theorem len_perm : ∀ (n : Nat) {w : Int} {b c : List Int}, phi w b ≤ n → b.length = 4 → b.Perm c → (T w b).length = (T w c).length := by
  intro n
  induction n with
  | zero =>
    intro w b c hn h hc
    have hcl : c.length = 4 := hc.length_eq ▸ h
    have no : ∀ p, p < 4 → ¬ Rise w b p := fun p hp u => by have := phi_lt h hp u; omega
    have no' : ∀ p, p < 4 → ¬ Rise w c p := fun p hp u => by
      obtain ⟨q, hq, e⟩ := place_of hc.symm hcl hp
      exact no q hq (rise_perm hc.symm e u)
    have e : T w b = [] := by
      rw [T_eq h, List.flatMap_eq_nil_iff]
      intro p hp
      rw [if_neg (no p (List.mem_range.mp hp))]
    have e' : T w c = [] := by
      rw [T_eq hcl, List.flatMap_eq_nil_iff]
      intro p hp
      rw [if_neg (no' p (List.mem_range.mp hp))]
    rw [e, e']
  | succ n ih =>
    intro w b c hn h hc
    have hcl : c.length = 4 := hc.length_eq ▸ h
    -- by the bend instead of the place
    let g : List Int → Int → Nat := fun b x => if x < ex b.sum x ∧ ex b.sum x ≤ w then 1 + (T w (ex b.sum x :: b.erase x)).length else 0
    have one : ∀ {b : List Int}, b.length = 4 → phi w b ≤ n + 1 → ∀ p, p < 4 → (if Rise w b p then (sw b p, p) :: T w (sw b p) else []).length = g b (b.getD p 0) := fun {b} h hn p hp => by
      by_cases u : Rise w b p
      · rw [if_pos u]
        show _ = if b.getD p 0 < ex b.sum (b.getD p 0) ∧ ex b.sum (b.getD p 0) ≤ w then 1 + (T w (ex b.sum (b.getD p 0) :: b.erase (b.getD p 0))).length else 0
        have u' : b.getD p 0 < ex b.sum (b.getD p 0) ∧ ex b.sum (b.getD p 0) ≤ w := u
        rw [if_pos u', List.length_cons, Nat.add_comm]
        congr 1
        have l := phi_lt h hp u
        refine ih (by omega) (by rw [len_sw]; exact h) ?_
        unfold sw
        refine (set_perm b (by omega) _).trans (List.Perm.cons _ ?_)
        have h1 := get_perm b (p := p) (by omega)
        have h2 : b.Perm (b.getD p 0 :: b.erase (b.getD p 0)) := List.perm_cons_erase (h1.mem_iff.mpr List.mem_cons_self)
        exact (h1.symm.trans h2).cons_inv
      · rw [if_neg u]
        show _ = if b.getD p 0 < ex b.sum (b.getD p 0) ∧ ex b.sum (b.getD p 0) ≤ w then 1 + (T w (ex b.sum (b.getD p 0) :: b.erase (b.getD p 0))).length else 0
        have u' : ¬ (b.getD p 0 < ex b.sum (b.getD p 0) ∧ ex b.sum (b.getD p 0) ≤ w) := u
        rw [if_neg u']
        rfl
    have tot : ∀ {b : List Int}, b.length = 4 → phi w b ≤ n + 1 → (T w b).length = (b.map (g b)).sum := fun {b} h hn => by
      rw [T_eq h, List.length_flatMap]
      have e1 : (List.range 4).map (fun p => (if Rise w b p then (sw b p, p) :: T w (sw b p) else []).length) = (List.range 4).map fun p => g b (b.getD p 0) :=
        List.map_congr_left fun p hp => one h hn p (List.mem_range.mp hp)
      rw [e1]
      obtain ⟨x, y, z, t, rfl⟩ := four_of h
      rfl
    have phi_perm : ∀ {b c : List Int}, b.length = 4 → b.Perm c → phi w b = phi w c := fun {b c} h hc => by
      have hcl : c.length = 4 := hc.length_eq ▸ h
      have e : ∀ {b : List Int}, b.length = 4 → phi w b = (b.map fun x => (w - x).toNat).sum := fun {b} h => by
        obtain ⟨x, y, z, t, rfl⟩ := four_of h
        simp only [phi, g0, g1, g2, g3, List.map_cons, List.map_nil, List.sum_cons, List.sum_nil]
        omega
      rw [e h, e hcl]
      exact (hc.map _).sum_nat
    rw [tot h hn, tot hcl (by rw [← phi_perm h hc]; exact hn)]
    have ge : ∀ x ∈ b, g b x = g c x := fun x hx => by
      show (if x < ex b.sum x ∧ ex b.sum x ≤ w then 1 + (T w (ex b.sum x :: b.erase x)).length else 0) = if x < ex c.sum x ∧ ex c.sum x ≤ w then 1 + (T w (ex c.sum x :: c.erase x)).length else 0
      rw [← sum_perm hc]
      by_cases u : x < ex b.sum x ∧ ex b.sum x ≤ w
      · rw [if_pos u, if_pos u]
        congr 1
        have hb' : (ex b.sum x :: b.erase x).length = 4 := by
          rw [List.length_cons, List.length_erase_of_mem hx, h]
        refine ih ?_ hb' ((hc.erase x).cons _)
        -- the measure falls
        obtain ⟨p, hp, e⟩ := List.getElem_of_mem hx
        have ep : b.getD p 0 = x := by
          rw [List.getD_eq_getElem?_getD, List.getElem?_eq_getElem hp]
          exact e
        have l := phi_lt h (p := p) (by omega) (show Rise w b p by unfold Rise; rw [ep]; exact u)
        have pe : phi w (sw b p) = phi w (ex b.sum x :: b.erase x) := by
          refine phi_perm (by rw [len_sw]; exact h) ?_
          unfold sw
          rw [ep]
          refine (set_perm b hp _).trans (List.Perm.cons _ ?_)
          have h1 := get_perm b hp
          rw [ep] at h1
          exact (h1.symm.trans (List.perm_cons_erase hx)).cons_inv
        omega
      · rw [if_neg u, if_neg u]
    rw [List.map_congr_left ge]
    exact (hc.map _).sum_nat
/-! lists in order -/
theorem up_one {l m : List Int} (hl : l.Pairwise (· ≤ ·)) (hm : m.Pairwise (· ≤ ·)) (h : l.Perm m) : l = m := h.eq_of_pairwise (fun a b _ _ => Int.le_antisymm) hl hm
def rle (a b : List Int) : Bool := decide (a ≤ b)
theorem rle_trans (a b c : List Int) (h1 : rle a b = true) (h2 : rle b c = true) : rle a c = true := decide_eq_true (List.le_trans (of_decide_eq_true h1) (of_decide_eq_true h2))
theorem rle_total (a b : List Int) : (rle a b || rle b a) = true := by
  rcases List.le_total a b with h | h
  · rw [show rle a b = true from decide_eq_true h]; rfl
  · rw [show rle b a = true from decide_eq_true h]; simp
theorem rows_one {l m : List (List Int)} (h : l.Perm m) : l.mergeSort rle = m.mergeSort rle := by
  refine List.Perm.eq_of_pairwise (le := fun a b => rle a b = true) (fun a b _ _ h1 h2 => List.le_antisymm (of_decide_eq_true h1) (of_decide_eq_true h2)) (List.pairwise_mergeSort rle_trans rle_total l) (List.pairwise_mergeSort rle_trans rle_total m) ?_
  exact (List.mergeSort_perm l rle).trans (h.trans (List.mergeSort_perm m rle).symm)
theorem rows_set {l m : List (List Int)} (hl : l.Nodup) (hm : m.Nodup) (h : ∀ x, x ∈ l ↔ x ∈ m) : l.mergeSort rle = m.mergeSort rle := rows_one ((List.perm_ext_iff_of_nodup hl hm).mpr h)
/-- four numbers in order -/
def ins (x : Int) : List Int → List Int
  | [] => [x]
  | y :: l => if x ≤ y then x :: y :: l else y :: ins x l
def srt (l : List Int) : List Int := l.foldr ins []
theorem ins_perm (x : Int) : ∀ l, (ins x l).Perm (x :: l)
  | [] => List.Perm.refl _
  | y :: l => by
    unfold ins
    split
    · exact List.Perm.refl _
    · exact ((ins_perm x l).cons y).trans (List.Perm.swap x y l)
theorem ins_up (x : Int) : ∀ l, l.Pairwise (· ≤ ·) → (ins x l).Pairwise (· ≤ ·)
  | [], _ => List.pairwise_singleton _ _
  | y :: l, h => by
    obtain ⟨h1, h2⟩ := List.pairwise_cons.mp h
    unfold ins
    split
    · rename_i c
      refine List.pairwise_cons.mpr ⟨fun z hz => ?_, h⟩
      rcases List.mem_cons.mp hz with rfl | hz
      · exact c
      · exact Int.le_trans c (h1 z hz)
    · rename_i c
      refine List.pairwise_cons.mpr ⟨fun z hz => ?_, ins_up x l h2⟩
      rcases List.mem_cons.mp ((ins_perm x l).mem_iff.mp hz) with rfl | hz
      · omega
      · exact h1 z hz
theorem srt_perm : ∀ l, (srt l).Perm l
  | [] => List.Perm.refl _
  | x :: l => (ins_perm x (srt l)).trans ((srt_perm l).cons x)
theorem srt_up : ∀ l, (srt l).Pairwise (· ≤ ·)
  | [] => List.Pairwise.nil
  | x :: l => ins_up x _ (srt_up l)
theorem srt_of {l m : List Int} (h : m.Perm l) (u : m.Pairwise (· ≤ ·)) : m = srt l := up_one u (srt_up l) (h.trans (srt_perm l).symm)
theorem srt_eq {l m : List Int} (h : l.Perm m) : srt l = srt m := srt_of ((srt_perm l).trans h) (srt_up l)
end BS
namespace BS
/-! the way down, reckoned -/
def dnF : Nat → List Int → List Int
  | 0, b => b
  | n + 1, b => match lowP b with
    | none => b
    | some p => dnF n (sw b p)
theorem dnF_eq {b l : List Int} {k : Nat} (d : Dn b k l) : ∀ {n : Nat}, k ≤ n → dnF n b = l := by
  induction d with
  | stop h =>
    intro n _
    cases n with
    | zero => rfl
    | succ n => show (match lowP _ with | none => _ | some p => _) = _; rw [h]
  | step h d ih =>
    intro n hn
    cases n with
    | zero => omega
    | succ n =>
      show (match lowP _ with | none => _ | some p => dnF n (sw _ p)) = _
      rw [h]
      exact ih (by omega)
def dwn (b : List Int) : List Int := dnF b.sum.toNat b
theorem dwn_eq {b l : List Int} {k : Nat} (f : IsF b) (d : Dn b k l) : dwn b = l := dnF_eq d (by have := (d.isF f).2.2; omega)
/-- each once -/
def ddp : List (List Int) → List (List Int)
  | [] => []
  | x :: l => if (ddp l).contains x then ddp l else x :: ddp l
theorem ddp_mem {x : List Int} : ∀ {l : List (List Int)}, x ∈ ddp l ↔ x ∈ l
  | [] => Iff.rfl
  | y :: l => by
    unfold ddp
    have ih := ddp_mem (x := x) (l := l)
    have ihy := ddp_mem (x := y) (l := l)
    split
    · rename_i c
      have c' : y ∈ ddp l := by simpa using c
      rw [List.mem_cons]
      constructor
      · intro h; exact .inr (ih.mp h)
      · rintro (rfl | h)
        · exact c'
        · exact ih.mpr h
    · rw [List.mem_cons, List.mem_cons, ih]
theorem ddp_nd : ∀ l : List (List Int), (ddp l).Nodup
  | [] => List.nodup_nil
  | y :: l => by
    unfold ddp
    split
    · exact ddp_nd l
    · rename_i c
      exact List.nodup_cons.mpr ⟨by simpa using c, ddp_nd l⟩
/-- what turned_out tells, each once -/
def outs (w : Int) (r : List Int) : List (List Int) := ddp ((rootF w r ++ F w r).map fun x => srt (dwn (tn x.1 x.2)))
theorem outs_mem {w : Int} {r x : List Int} (f : IsF r) (hw : 0 < w) : x ∈ outs w r ↔ ∃ l, ResA w r l ∧ srt l = x := by
  unfold outs
  rw [ddp_mem, List.mem_map]
  have key : ∀ y, Fnd w r y → ∃ k, Dn (tn y.1 y.2) k (dwn (tn y.1 y.2)) := fun y hy => by
    obtain ⟨t, hp, e⟩ := hy.tr f
    have fb := t.isF f
    have ft : IsF (tn y.1 y.2) := isF_tn fb hp (by have := fb.pos; omega)
    obtain ⟨k, l, d, _⟩ := ft.dn
    rw [dwn_eq ft d]
    exact ⟨k, d⟩
  constructor
  · rintro ⟨y, hy, rfl⟩
    have hy' := (fnd_iff f).mpr hy
    obtain ⟨k, d⟩ := key y hy'
    exact ⟨_, (res_iff f hw).mp ⟨y, k, hy', d⟩, rfl⟩
  · rintro ⟨l, h, rfl⟩
    obtain ⟨y, k, hy, d⟩ := (res_iff f hw).mpr h
    obtain ⟨k', d'⟩ := key y hy
    refine ⟨y, (fnd_iff f).mp hy, ?_⟩
    rw [(d'.uniq d).2]
/-- a list that tells just what comes of turning in a gasket -/
structure Tells (w : Int) (r : List Int) (R : List (List Int)) : Prop where
  nd : R.Nodup
  mem : ∀ x, x ∈ R ↔ ∃ l, ResA w r l ∧ srt l = x
theorem outs_tells {w : Int} {r : List Int} (f : IsF r) (hw : 0 < w) : Tells w r (outs w r) := ⟨ddp_nd _, fun _ => outs_mem f hw⟩
theorem Tells.perm {w : Int} {r s : List Int} {R : List (List Int)} (t : Tells w r R) (f : IsF r) (hw : 0 < w) (h : r.Perm s) : Tells w s R := by
  refine ⟨t.nd, fun x => (t.mem x).trans ⟨?_, ?_⟩⟩
  · rintro ⟨l, hl, rfl⟩
    obtain ⟨m, hm, e⟩ := hl.perm h f hw
    exact ⟨m, hm, (srt_eq e).symm⟩
  · rintro ⟨l, hl, rfl⟩
    obtain ⟨m, hm, e⟩ := hl.perm h.symm (f.perm h) hw
    exact ⟨m, hm, (srt_eq e).symm⟩
theorem Tells.one {w : Int} {r : List Int} {R S : List (List Int)} (a : Tells w r R) (b : Tells w r S) : R.mergeSort rle = S.mergeSort rle :=
  rows_set a.nd b.nd fun x => (a.mem x).trans (b.mem x).symm
/-! the least fours of a rim -/
def rowOf (s a h c : Int) : List Int := [-s, a + s, c + s, a + c - 2 * h + s]
def okR (s a h c : Nat) : Bool := decide (a * c = s * s + h * h) && (decide (a ≤ c) && decide (Nat.gcd (Nat.gcd a h) c = 1))
def roots (s : Nat) : List (List Int) :=
  if s = 0 then [[0, 0, 1, 1]] else
  (List.range' 1 (2 * s - 1)).flatMap fun a => (List.range (a / 2 + 1)).flatMap fun h => if okR s a h ((s * s + h * h) / a) then [rowOf s a h ((s * s + h * h) / a : Nat)] else []
def isFb (b : List Int) : Bool := decide (b.length = 4) && (decide (2 * sq b = b.sum * b.sum) && decide (0 < b.sum))
theorem isF_of {b : List Int} (h : isFb b = true) : IsF b := by
  unfold isFb at h
  simp only [Bool.and_eq_true, decide_eq_true_eq] at h
  exact ⟨h.1, h.2.1, h.2.2⟩
def gcd4 (b : List Int) : Nat := b.foldl (fun g x => Nat.gcd g x.natAbs) 0
theorem roots_ok : ((List.range 17).all fun s => (roots s).all fun r => isFb r && (decide (lowP r = none) && (decide (gcd4 r = 1) && decide (r.sum ≤ 546)))) = true := by decide +kernel
theorem roots_few : ((List.range 16).all fun s => (roots s).all fun r => decide ((T 60 r).length ≤ 58)) = true := by decide +kernel
theorem roots_max : ((List.range 17).all fun s => (roots s).all fun r => decide (r.length = 4) && decide (roots s ≠ [])) = true := by decide +kernel
theorem roots_all : ((List.range' 1 16).all fun n => ((List.range n).flatMap fun m => (roots m).flatMap fun r => outs n r).isPerm (roots n)) = true := by decide +kernel
theorem roots_len : ((List.range 17).all fun s => decide (0 < (roots s).length ∧ (roots s).length ≤ 6)) = true := by decide +kernel
end BS
namespace BS
open PySem PySem.Spec PyProof.Rows L2
section
variable {X : Cx} {pins : List (Addr × Obj)} {σ : L2.St} {H : Hp} {s : Shared}
/-- sum of a tuple of ints -/
def rSumT (K : PySem.W.Frag) : List V → Hp → VK → Prop := fun vs H Q => ∃ (a : Addr) (ns : List Int), vs = [V.ref a] ∧ SqT K H a (ns.map V.int) ∧ Q (.int ns.sum) H
theorem cr_sumT (hc : X.calm = true) : CallR X (.builtin "sum") (rSumT X.K) := by
  intro pins s σ H vs us Q I r h
  obtain ⟨a, ns, rfl, hs, q⟩ := h
  obtain ⟨its, rv, ht, _⟩ := I.tuple hs
  rw [Vals.ref1 r]
  have hi := rv.ints
  obtain ⟨xs, hx⟩ := hi.allInts.items
  have hn : numsOf its.toArray.toList = ns := by rw [show its.toArray.toList = its from rfl, hi.numsOf]
  obtain ⟨o, ho, hcl, n, hd⟩ := ht
  have hl : s.heap.IsTuple a its.toArray := ⟨o, ho, hcl, n, hd⟩
  rw [hx] at hl hn
  rw [nums_intItems] at hn
  refine PySem.W.ktm_sumG (I.ok.hd hc) hl fun h' tk t' hk => ⟨.int _, H, I.kept hk, ⟨t', ?_⟩, q⟩
  rw [preSum_eq, List.take_of_length_le (by simp), hn]
end

/-! ### sorted of a tuple, of rows, of a set of tuples -/
mutual
theorem reads_there {h : Heap} : ∀ {v : Value} {d : PyData} {as : List Addr}, Reads h v d as → ∀ a, a ∈ as → ∃ o, h.get? a = some o
  | _, _, _, .none, a, m => absurd m (List.not_mem_nil)
  | _, _, _, .bool b, a, m => absurd m (List.not_mem_nil)
  | _, _, _, .int i t, a, m => absurd m (List.not_mem_nil)
  | _, _, _, .str x t, a, m => absurd m (List.not_mem_nil)
  | _, _, _, .list h1 _ _ h4, a, m => by
    rcases List.mem_cons.mp m with e | m
    · rw [e]; exact ⟨_, h1⟩
    · exact readsAll_there h4 a m
  | _, _, _, .tuple _ _ _ h4, a, m => readsAll_there h4 a m
  | _, _, _, .dict h1 _ _ h4 h5, a, m => by
    rcases List.mem_append.mp m with m | m
    · rcases List.mem_cons.mp m with e | m
      · rw [e]; exact ⟨_, h1⟩
      · exact readsAll_there h4 a m
    · exact readsAll_there h5 a m
theorem readsAll_there {h : Heap} : ∀ {vs : List Value} {ds : List PyData} {as : List Addr}, ReadsAll h vs ds as → ∀ a, a ∈ as → ∃ o, h.get? a = some o
  | _, _, _, .nil, a, m => absurd m (List.not_mem_nil)
  | _, _, _, .cons h1 h2, a, m => by
    rcases List.mem_append.mp m with m | m
    · exact reads_there h1 a m
    · exact readsAll_there h2 a m
end
section
variable {prog : Program} {w : World} {A : Around} {E : Value → Shared → Prop} {s : Shared}
theorem collect_tup {l : Addr} {vs : List Value} {Q : List Value → Shared → Prop} (hl : s.heap.IsTuple l vs.toArray) (hsz : vs.length ≤ sizeLine)
    (h : Q vs { s with heap := (s.heap.push (seqObj "list" #[] 0)).update s.heap.objs.size (Obj.mapSeq (· ++ vs.toArray)) }) :
    wpAny (model prog w) A (collect (.ref l)) Q E s := by
  obtain ⟨ob, hob, hcl, n, hda⟩ := hl
  have hob' : (s.heap.push (seqObj "list" #[] 0)).get? l = some ob := Heap.get?_push_of_some _ hob
  have same : ((#[] : Array Value) ++ vs.toArray).toList = vs := by simp
  unfold collect
  refine wpAny_bind (wpAny_runValue (codeAny_builtin entry_proto_collect' ?_))
  show wpAny _ _ (do again (.builtin "list.__iadd__" ⟨[← newList [], .ref l], []⟩)) _ _ s
  refine wpAny_bind (wpAny_newList (wpAny_pure ⟨Code.quiet_builtin _ (by decide +kernel), codeAny_builtin entry_list_iadd' ?_⟩))
  show wpAny _ _ (Builtin.List.listExtendWith (.ref s.heap.objs.size) (.ref l) (.ref s.heap.objs.size)) _ _ { s with heap := s.heap.push (seqObj "list" #[] 0) }
  unfold Builtin.List.listExtendWith
  refine wpAny_bind (wpAny_typeOf (T := "tuple") ⟨ob, hob', hcl⟩ ?_)
  have tt : (Value.type "tuple" == Value.type "tuple") = true := by rfl
  rw [if_pos (by rw [tt]; simp)]
  refine wpAny_bind (listItems_at hob' hda ?_)
  refine wpAny_bind (listItems_at (xs := #[]) (n := 0) (Heap.get?_push_size _ rfl) rfl ?_)
  rw [if_neg (by simp)]
  refine wpAny_bind (listUpdate_at (xs := #[]) (n := 0) (Heap.get?_push_size _ rfl) rfl ?_ (Nat.zero_le _) (by show (#[] ++ vs.toArray).size ≤ sizeLine + 1; simp only [Array.size_append, List.size_toArray, List.length_nil]; omega))
  refine wpAny_pure ?_
  show wpAny (model prog w) A (do
      let o ← load s.heap.objs.size
      match o.data with
      | .seq xs _ => pure xs.toList
      | _ => unsupported "internal:collect") Q E { s with heap := (s.heap.push (seqObj "list" #[] 0)).update s.heap.objs.size (Obj.mapSeq (· ++ vs.toArray)) }
  refine wpAny_bind (wpAny_load (get?_update_seq (Heap.get?_push_size _ rfl) _) ?_)
  show wpAny _ _ (pure ((#[] : Array Value) ++ vs.toArray).toList) Q E _
  rw [same]
  exact wpAny_pure h
/-- sorted(x), x drawn off into vs (any that G allows): the new list reads as the rows in order -/
theorem sorted_by {β : Type} {R : Value → β → Prop} {enc : β → PyData} {x : Value} {G : List Value → Shared → Prop} {Q : Value → Shared → Prop}
    (hc : ∀ Q' : List Value → Shared → Prop, (∀ vs s1, G vs s1 → Q' vs s1) → wpAny (model prog w) A.in1 (collect x) Q' E s)
    (hg : ∀ vs s1, G vs s1 → ∃ bs : List β, PySem.W.EachIs R vs bs ∧ PySem.W.EachIs (fun v b => ∃ as, Reads s1.heap v (enc b) as) vs bs ∧ PySem.W.AllAlike (bs.map enc) ∧ PySem.W.Sortable (bs.map enc) ∧ bs.length ≤ sizeLine ∧
      (∀ b, b ∈ bs → A.units + 2 + (enc b).depth < cLine) ∧
      ∀ out, out.length = bs.length → PySem.W.EachIs R out (bs.mergeSort (PySem.W.dataLe false enc)) → Q (.ref s1.heap.objs.size) { s1 with heap := sortedHeap (s1.heap.push (seqObj "list" vs.toArray 0)) s1.heap.objs.size vs (List.toArray out) }) :
    wpAny (model prog w) A (call (.builtin "sorted") [x]) Q E s := by
  refine Calls.call_function_entry kind_sorted plain_sorted entry_sorted (args_sorted1 _) ?_
  unfold Builtin.«sorted»
  refine wpAny_bind (m := checkCount "sorted" 1 1 _) (wpAny_pure ?_)
  refine wpAny_bind (hc _ fun vs s1 g => ?_)
  obtain ⟨bs, e, er, hal, hk, hL, hu, h⟩ := hg vs s1 g
  refine wpAny_bind (wpAny_newList ?_ (by rw [e.length]; exact hL))
  have hnew : (s1.heap.push (seqObj "list" vs.toArray 0)).get? s1.heap.objs.size = some (seqObj "list" vs.toArray 0) := Heap.get?_push_size _ rfl
  have there : ∀ v b as, Reads s1.heap v b as → s1.heap.objs.size ∉ as := fun v b as r hm => by
    obtain ⟨o, ho⟩ := reads_there r _ hm
    exact absurd (Heap.lt_size ho) (Nat.lt_irrefl _)
  refine wpAny_bind (wpAny_holding (PySem.W.list_sort_data (s := { s1 with heap := s1.heap.push (seqObj "list" vs.toArray 0) }) (R := R) (enc := enc) hnew e ?_ hal hk hL (fun b hb => ?_) fun out h1 h2 => ?_))
  · refine er.mono fun v b ⟨as, r⟩ => ⟨as, PyProof.Rows.Reads.keeps (fun _ _ q => Heap.get?_push_of_some _ q) r, there _ _ _ r⟩
  · have := hu b hb
    show A.in1.units + 1 + (enc b).depth < cLine
    have e1 : A.in1.units = A.units + 1 := rfl
    omega
  · exact wpAny_pure ⟨_, rfl, h out h1 h2⟩
end

section
variable {X : Cx} {pins : List (Addr × Obj)} {σ : L2.St} {H : Hp} {s : Shared}
/-- behind such a sort -/
theorem sorted_fin (I : Inv X pins σ H s) {s1 : Shared} {vs out : List Value} {ys : List V} {Q : VK} (k1 : ∀ b o, s.heap.get? b = some o → s1.heap.get? b = some o) (hs : s.heap.objs.size ≤ s1.heap.objs.size) (g1 : s1.gens = s.gens) (o1 : s1.os = s.os)
    (hv : Vals ys out) (hl : ys.length ≤ sizeLine) (q : H s1.heap.objs.size = none → Q (.ref s1.heap.objs.size) (upd H s1.heap.objs.size (.lst ys))) :
    EP X pins σ Q (.ref s1.heap.objs.size) { s1 with heap := sortedHeap (s1.heap.push (seqObj "list" vs.toArray 0)) s1.heap.objs.size vs (List.toArray out) } := by
  have hnew : (s1.heap.push (seqObj "list" vs.toArray 0)).get? s1.heap.objs.size = some (seqObj "list" vs.toArray 0) := Heap.get?_push_size _ rfl
  obtain ⟨c, hc⟩ := sortedHeap_at (vs := vs) (out := List.toArray out) hnew
  have hn : H s1.heap.objs.size = none := I.hok.fresh hs
  have k2 : ∀ b o, s.heap.get? b = some o → (sortedHeap (s1.heap.push (seqObj "list" vs.toArray 0)) s1.heap.objs.size vs (List.toArray out)).get? b = some o := fun b o e => by
    have e1 := k1 b o e
    have lt := Heap.lt_size e1
    rw [sortedHeap_old (Nat.ne_of_lt lt) (by rw [size_push']; exact Nat.lt_succ_of_lt lt)]
    exact Heap.get?_push_of_some _ e1
  have ok : ObjOk X.prog X.w (upd H s1.heap.objs.size (.lst ys)) (sortedHeap (s1.heap.push (seqObj "list" vs.toArray 0)) s1.heap.objs.size vs (List.toArray out)) s1.heap.objs.size (.lst ys) := ⟨hl, out, c, hv, hc⟩
  exact ⟨.ref s1.heap.objs.size, _, I.call' (ch := []) (s' := { s1 with heap := sortedHeap (s1.heap.push (seqObj "list" vs.toArray 0)) s1.heap.objs.size vs (List.toArray out) }) o1 (Un.laid k2 hs hn) (I.hok.laid k2 hs ok) (by show AllBare s1.gens; rw [g1]; exact I.bare) (fun _ z => nomatch z), rfl, q hn⟩
theorem vals_is : ∀ {ns : List Int} {us : List Value}, Vals (ns.map V.int) us → PySem.W.EachIs (fun v (i : Int) => ∃ t, v = Value.int i t) us ns
  | [], _, .nil => .nil
  | _ :: _, _, .cons h t => .cons h (vals_is t)
theorem is_vals : ∀ {ns : List Int} {us : List Value}, PySem.W.EachIs (fun v (i : Int) => ∃ t, v = Value.int i t) us ns → Vals (ns.map V.int) us
  | [], _, .nil => .nil
  | _ :: _, _, .cons h t => .cons h (is_vals t)
theorem up_sort (ns : List Int) : (ns.mergeSort fun a b => decide (a ≤ b)).Perm ns ∧ (ns.mergeSort fun a b => decide (a ≤ b)).Pairwise (· ≤ ·) :=
  ⟨List.mergeSort_perm _ _, (List.pairwise_mergeSort (le := fun a b : Int => decide (a ≤ b)) (fun a b c h1 h2 => decide_eq_true (Int.le_trans (of_decide_eq_true h1) (of_decide_eq_true h2))) (fun a b => by
    rcases Int.le_total a b with h | h
    · rw [decide_eq_true h]; rfl
    · rw [decide_eq_true h]; simp) ns).imp fun h => of_decide_eq_true h⟩
/-- sorted(t), t a tuple of ints: a new list -/
def rSortTI (K : PySem.W.Frag) : List V → Hp → VK → Prop := fun vs H Q => ∃ (a : Addr) (ns : List Int), vs = [V.ref a] ∧ SqT K H a (ns.map V.int) ∧
  ∀ (ns' : List Int) (p : Addr), ns'.Perm ns → ns'.Pairwise (· ≤ ·) → H p = none → Q (.ref p) (upd H p (.lst (ns'.map V.int)))
theorem cr_sortTI {k : Nat} (hr : Room k X.A) : CallR X (.builtin "sorted") (rSortTI X.K) := by
  intro pins s σ H vs us Q I r h
  obtain ⟨a, ns, rfl, hs, q⟩ := h
  obtain ⟨its, rv, ht, hz⟩ := I.tuple hs
  rw [Vals.ref1 r]
  rw [List.length_map] at hz
  have hl : its.length = ns.length := by rw [← rv.length, List.length_map]
  obtain ⟨o, ho, hcl, n, hd⟩ := ht
  have ht : s.heap.IsTuple a its.toArray := ⟨o, ho, hcl, n, hd⟩
  refine sorted_by (R := fun v (i : Int) => ∃ t, v = Value.int i t) (enc := fun i => PyData.int i) (G := fun vs s1 => vs = its ∧ s1 = { s with heap := (s.heap.push (seqObj "list" #[] 0)).update s.heap.objs.size (Obj.mapSeq (· ++ its.toArray)) })
    (fun Q' h' => collect_tup ht (by rw [hl]; exact hz) (h' _ _ ⟨rfl, rfl⟩)) ?_
  rintro vs s1 ⟨rfl, rfl⟩
  have e := vals_is rv
  have hu := hr.un
  refine ⟨ns, e, e.mono fun v i ⟨t, z⟩ => ⟨[], z ▸ Reads.int i t⟩, PySem.W.AllAlike.of fun b b' => rfl, PySem.W.Sortable.others fun b => ⟨(fun z => nomatch z), (fun xs z => nomatch z)⟩, hz, fun b hb => ?_, fun out h1 h2 => ?_⟩
  · show X.A.units + 2 + (PyData.int b).depth < cLine
    have : (PyData.int b).depth = 0 := rfl
    omega
  · have e1 : PySem.W.dataLe false (fun i : Int => PyData.int i) = fun a b => decide (a ≤ b) := PySem.W.dataLe_int (fun i : Int => i)
    rw [e1] at h2
    obtain ⟨u1, u2⟩ := up_sort ns
    have v2 := is_vals h2
    have sz : s.heap.objs.size ≤ ((s.heap.push (seqObj "list" #[] 0)).update s.heap.objs.size (Obj.mapSeq (· ++ vs.toArray))).objs.size := by
      rw [Heap.size_update, size_push']; exact Nat.le_succ _
    refine sorted_fin (s1 := { s with heap := (s.heap.push (seqObj "list" #[] 0)).update s.heap.objs.size (Obj.mapSeq (· ++ vs.toArray)) }) I (fun b o e => ?_) sz rfl rfl v2 ?_ fun hn => q _ _ u1 u2 hn
    · rw [Heap.get?_update_ne _ _ _ _ (Nat.ne_of_lt (Heap.lt_size e))]
      exact Heap.get?_push_of_some _ e
    · rw [List.length_map, u1.length_eq]
      exact hz
/-- rows: lists or tuples of ints, by their addresses -/
def RowAt (K : PySem.W.Frag) (tp : Bool) (H : Hp) (a : Addr) (row : List Int) : Prop := if tp = true then SqT K H a (row.map V.int) else SqL K H a (row.map V.int)
abbrev RowsAt (K : PySem.W.Frag) (tp : Bool) (H : Hp) : List Addr → List (List Int) → Prop := Paired (RowAt K tp H)
def encR (tp : Bool) (row : List Int) : PyData := if tp = true then .tuple (row.map .int) else .list (row.map .int)
theorem readsAll_ints {h : Heap} : ∀ {ns : List Int} {us : List Value}, Vals (ns.map V.int) us → ∃ as, ReadsAll h us (ns.map .int) as
  | [], _, .nil => ⟨_, .nil⟩
  | _ :: _, _, .cons h t => by
    obtain ⟨k, rfl⟩ := h
    obtain ⟨as, r⟩ := readsAll_ints t
    exact ⟨_, .cons (.int _ k) r⟩
theorem row_reads (I : Inv X pins σ H s) {tp : Bool} {a : Addr} {row : List Int} (h : RowAt X.K tp H a row) : ∃ as, Reads s.heap (.ref a) (encR tp row) as := by
  cases tp with
  | true =>
    obtain ⟨its, rv, ⟨o, ho, hc, n, hd⟩, _⟩ := I.tuple h
    obtain ⟨as, r⟩ := readsAll_ints (h := s.heap) rv
    exact ⟨_, .tuple ho hc hd r⟩
  | false =>
    obtain ⟨its, rv, ⟨o, n, ho, hc, _, hd⟩, _⟩ := I.list h
    obtain ⟨as, r⟩ := readsAll_ints (h := s.heap) rv
    exact ⟨_, .list ho hc hd r⟩
theorem alike_encR (tp : Bool) (a b : List Int) : PySem.W.alike (encR tp a) (encR tp b) = true := by
  cases tp
  · exact PySem.W.alike_ints a b
  · exact PySem.W.alike_ints a b
theorem depth_encR (tp : Bool) (a : List Int) : (encR tp a).depth ≤ 1 := by
  have := PySem.W.depth_ints a
  cases tp
  · show PyData.depthAll (a.map .int) + 1 ≤ 1
    omega
  · show PyData.depthAll (a.map .int) + 1 ≤ 1
    omega
theorem le_encR (tp : Bool) : PySem.W.dataLe false (encR tp) = rle := by
  cases tp
  · show PySem.W.dataLe false (fun b : List Int => PyData.list (b.map .int)) = rle
    rw [PySem.W.dataLe_rows (fun b : List Int => b)]
    rfl
  · have e := PySem.W.dataLe_rows (fun b : List Int => b)
    funext p q
    have e2 := congrFun (congrFun e p) q
    have e3 : (!PySem.W.dataLt (.list (q.map .int)) (.list (p.map .int))) = decide (p ≤ q) := e2
    show (!PySem.W.dataLt (.tuple (q.map .int)) (.tuple (p.map .int))) = decide (p ≤ q)
    rw [PySem.W.dataLt_list] at e3
    rw [PySem.W.dataLt_tuple]
    exact e3
end

section
variable {X : Cx} {pins : List (Addr × Obj)} {σ : L2.St} {H : Hp} {s : Shared}
/-- a value that stands for a row -/
def RV (K : PySem.W.Frag) (tp : Bool) (H : Hp) (v : Value) (row : List Int) : Prop := ∃ a, v = Value.ref a ∧ RowAt K tp H a row
theorem rv_of {K : PySem.W.Frag} {tp : Bool} {H : Hp} : ∀ {refs : List Addr} {rows : List (List Int)} {us : List Value}, RowsAt K tp H refs rows → Vals (refs.map V.ref) us → PySem.W.EachIs (RV K tp H) us rows
  | [], _, _, .nil, .nil => .nil
  | _ :: _, _, _, .cons h t, .cons r u => .cons ⟨_, r, h⟩ (rv_of t u)
theorem of_rv {K : PySem.W.Frag} {tp : Bool} {H : Hp} {us : List Value} {rows : List (List Int)} (h : PySem.W.EachIs (RV K tp H) us rows) : ∃ refs, RowsAt K tp H refs rows ∧ Vals (refs.map V.ref) us := by
  induction h with
  | nil => exact ⟨[], .nil, .nil⟩
  | cons h _ ih =>
    obtain ⟨a, rfl, ha⟩ := h
    obtain ⟨refs, h1, h2⟩ := ih
    exact ⟨a :: refs, .cons ha h1, .cons rfl h2⟩
theorem rv_reads (I : Inv X pins σ H s) {s1 : Shared} (k : ∀ b o, s.heap.get? b = some o → s1.heap.get? b = some o) {tp : Bool} {us : List Value} {rows : List (List Int)} (h : PySem.W.EachIs (RV X.K tp H) us rows) :
    PySem.W.EachIs (fun v b => ∃ as, Reads s1.heap v (encR tp b) as) us rows := h.mono fun v row ⟨a, e, ha⟩ => by
  subst e
  obtain ⟨as, r⟩ := row_reads I ha
  exact ⟨as, PyProof.Rows.Reads.keeps k r⟩
theorem sortable_encR {tp : Bool} {rows : List (List Int)} (h : tp = true → ∀ row, row ∈ rows → row ≠ []) : PySem.W.Sortable (rows.map (encR tp)) := by
  cases tp with
  | true =>
    refine .inl fun d hd => ?_
    obtain ⟨row, hm, rfl⟩ := List.mem_map.mp hd
    cases row with
    | nil => exact absurd rfl (h rfl _ hm)
    | cons x r => exact ⟨.int x, r.map .int, rfl⟩
  | false =>
    refine .inr fun d hd => ?_
    obtain ⟨row, hm, rfl⟩ := List.mem_map.mp hd
    exact ⟨(fun z => nomatch z), (fun xs z => nomatch z)⟩
/-- sorted(xs), xs a list of rows: a new list of the same rows in order -/
def rSortRows (K : PySem.W.Frag) (tp : Bool) : List V → Hp → VK → Prop := fun vs H Q => ∃ (a : Addr) (refs : List Addr) (rows : List (List Int)), vs = [V.ref a] ∧ SqL K H a (refs.map V.ref) ∧ RowsAt K tp H refs rows ∧ (tp = true → ∀ row, row ∈ rows → row ≠ []) ∧
  ∀ (refs' : List Addr) (p : Addr), RowsAt K tp H refs' (rows.mergeSort rle) → H p = none → Q (.ref p) (upd H p (.lst (refs'.map V.ref)))
theorem cr_sortRows {tp : Bool} {k : Nat} (hr : Room k X.A) : CallR X (.builtin "sorted") (rSortRows X.K tp) := by
  intro pins s σ H vs us Q I r h
  obtain ⟨a, refs, rows, rfl, hs, hrow, hne, q⟩ := h
  obtain ⟨its, rv, hl, hz⟩ := I.list hs
  rw [Vals.ref1 r]
  have e := rv_of hrow rv
  have hz' : rows.length ≤ sizeLine := by rw [← e.length, ← rv.length]; exact hz
  refine sorted_by (R := RV X.K tp H) (enc := encR tp) (G := fun vs s1 => vs = its ∧ s1 = { s with heap := (s.heap.push (seqObj "list" #[] 0)).update s.heap.objs.size (Obj.mapSeq (· ++ its.toArray)) })
    (fun Q' h' => collect_list hl.isList (h' _ _ ⟨rfl, rfl⟩) (by rw [e.length]; exact hz')) ?_
  rintro vs s1 ⟨rfl, rfl⟩
  have hu := hr.un
  have k1 : ∀ b o, s.heap.get? b = some o → ((s.heap.push (seqObj "list" #[] 0)).update s.heap.objs.size (Obj.mapSeq (· ++ vs.toArray))).get? b = some o := fun b o e => by
    rw [Heap.get?_update_ne _ _ _ _ (Nat.ne_of_lt (Heap.lt_size e))]
    exact Heap.get?_push_of_some _ e
  refine ⟨rows, e, rv_reads (s1 := { s with heap := (s.heap.push (seqObj "list" #[] 0)).update s.heap.objs.size (Obj.mapSeq (· ++ vs.toArray)) }) I k1 e, PySem.W.AllAlike.of (alike_encR tp), sortable_encR hne, hz', fun b hb => ?_, fun out h1 h2 => ?_⟩
  · have := depth_encR tp b
    omega
  · rw [le_encR] at h2
    obtain ⟨refs', h3, h4⟩ := of_rv h2
    have sz : s.heap.objs.size ≤ ((s.heap.push (seqObj "list" #[] 0)).update s.heap.objs.size (Obj.mapSeq (· ++ vs.toArray))).objs.size := by
      rw [Heap.size_update, size_push']; exact Nat.le_succ _
    refine sorted_fin (s1 := { s with heap := (s.heap.push (seqObj "list" #[] 0)).update s.heap.objs.size (Obj.mapSeq (· ++ vs.toArray)) }) I k1 sz rfl rfl h4 ?_ fun hn => q _ _ h3 hn
    rw [h4.length, h1]
    exact hz'
/-- sorted(set), the set of tuples: a new list of them in order -/
def rSortSetR (K : PySem.W.Frag) (P : Program) (w : World) : List V → Hp → VK → Prop := fun vs H Q => ∃ (a : Addr) (L : List (Addr × List Int)), vs = [V.ref a] ∧ H a = some (SetTO P w a L) ∧ (∀ p ∈ L, SqT K H p.1 (p.2.map V.int)) ∧ (∀ p ∈ L, p.2 ≠ []) ∧ L.length < 64 ∧
  ∀ (refs' : List Addr) (p : Addr), RowsAt K true H refs' ((L.map (·.2)).mergeSort rle) → H p = none → Q (.ref p) (upd H p (.lst (refs'.map V.ref)))
theorem cr_sortSetR (hc : X.calm = true) {k : Nat} (hr : Room k X.A) : CallR X (.builtin "sorted") (rSortSetR X.K X.prog X.w) := by
  intro pins s σ H vs us Q I r h
  obtain ⟨a, L, rfl, ha, hk, hne, hfew, q⟩ := h
  have R0 : SetT0 X.prog X.w s.heap a L := (I.hok a _ ha).1
  obtain ⟨es, ep, t, R⟩ := R0.full fun p hp => I.isT (hk p hp)
  rw [Vals.ref1 r]
  obtain ⟨o, ho, hex, hd⟩ := R.ob
  have hsz := R.size
  have hu := hr.un
  have hes : es.toList.map (·.2) = L.map fun q => Value.ref q.1 := by
    rw [R.rows]
    unfold rowsOf
    rw [List.map_map]
    rfl
  refine sorted_by (R := RV X.K true H) (enc := encR true) (G := fun vs s1 => (∀ b o, s.heap.get? b = some o → s1.heap.get? b = some o) ∧ s.heap.objs.size ≤ s1.heap.objs.size ∧ s1.gens = s.gens ∧ s1.os = s.os ∧ vs.Perm (L.map fun q => Value.ref q.1))
    (fun Q' h' => collect_set (A := X.A.in1) (I.ok.hd hc) ⟨o, ho, hex.1, hd⟩ R.fits (by unfold scanBound; omega) R.tab.ris R.led fun s1 vs k1 hz g1 o1 pm => h' vs s1 ⟨k1, hz, g1, o1, by rw [← hes]; exact pm⟩) ?_
  rintro vs s1 ⟨k1, hz, g1, o1, pm⟩
  -- the rows in the order in which they were drawn off
  have draw : ∀ (vs : List Value), (∀ v ∈ vs, v ∈ L.map fun q => Value.ref q.1) → ∃ L1 : List (Addr × List Int), vs = L1.map (fun q => Value.ref q.1) ∧ ∀ q ∈ L1, q ∈ L := by
    intro vs
    induction vs with
    | nil => intro _; exact ⟨[], rfl, fun q hq => absurd hq List.not_mem_nil⟩
    | cons v vs ih =>
      intro hv
      obtain ⟨q, hq, eq⟩ := List.mem_map.mp (hv v List.mem_cons_self)
      obtain ⟨L1, e1, h1⟩ := ih fun u hu => hv u (List.mem_cons_of_mem _ hu)
      refine ⟨q :: L1, by rw [List.map_cons, eq, e1], fun r hr => ?_⟩
      rcases List.mem_cons.mp hr with z | z
      · rw [z]; exact hq
      · exact h1 r z
  obtain ⟨L1, e1, h1⟩ := draw vs fun v hv => pm.mem_iff.mp hv
  have one : ∀ p ∈ L, ∀ q ∈ L, p.1 = q.1 → p = q := fun p hp q hq e => by
    have a1 := R.tup p hp
    have a2 := R.tup q hq
    rw [e] at a1
    exact Prod.ext e (a1.inj a2)
  have nL : L.Nodup := L2.nodup_of_map R.nd
  have nR : (L.map fun q => Value.ref q.1).Nodup := List.pairwise_map.mpr (List.Pairwise.imp_of_mem (fun {p q} hp hq hn e => hn (one p hp q hq (Value.ref.inj e))) nL)
  have p1 : L1.Perm L := by
    rw [e1] at pm
    have n1 : L1.Nodup := L2.nodup_of_map (pm.nodup_iff.mpr nR)
    refine (List.perm_ext_iff_of_nodup n1 nL).mpr fun p => ⟨h1 p, fun hp => ?_⟩
    obtain ⟨q, hq, e⟩ := List.mem_map.mp (pm.mem_iff.mpr (List.mem_map.mpr ⟨p, hp, rfl⟩))
    rw [← one q (h1 q hq) p hp (Value.ref.inj e)]
    exact hq
  have each : ∀ L1 : List (Addr × List Int), (∀ q ∈ L1, q ∈ L) → PySem.W.EachIs (RV X.K true H) (L1.map fun q => Value.ref q.1) (L1.map (·.2)) := by
    intro L1
    induction L1 with
    | nil => intro _; exact .nil
    | cons q L1 ih => intro h; exact .cons ⟨q.1, rfl, hk q (h q List.mem_cons_self)⟩ (ih fun r hr => h r (List.mem_cons_of_mem _ hr))
  have e : PySem.W.EachIs (RV X.K true H) vs (L1.map (·.2)) := by rw [e1]; exact each L1 h1
  have few1 : (L1.map (·.2)).length < 64 := by rw [List.length_map, p1.length_eq]; exact hfew
  refine ⟨L1.map (·.2), e, rv_reads I k1 e, PySem.W.AllAlike.of (alike_encR true), sortable_encR (fun _ row hm => ?_), small64 few1, fun b hb => ?_, fun out h2 h3 => ?_⟩
  · obtain ⟨q, hq, rfl⟩ := List.mem_map.mp hm
    exact hne q (h1 q hq)
  · have := depth_encR true b
    omega
  · rw [le_encR, rows_one (p1.map (·.2))] at h3
    obtain ⟨refs', h4, h5⟩ := of_rv h3
    refine sorted_fin I k1 hz g1 o1 h5 ?_ fun hn => q _ _ h4 hn
    rw [h5.length, h2]
    exact small64 few1
end
end BS
namespace BS
open PySem PySem.Spec PyProof.Rows L2 PpSet
/-! ### {elt for target in iter if ..}, elt a tuple of ints -/
section
variable {X : Cx} {pins : List (Addr × Obj)} {σ : L2.St} {H : Hp} {s : Shared}
/-- what adding a tuple asks, and what it leaves -/
def rAddT (K : PySem.W.Frag) (P : Program) (w : World) (D : Addr) (y : V) (H : Hp) (Nx : Hp → Prop) : Prop := ∃ (x : Addr) (k : List Int) (L : List (Addr × List Int)), y = .ref x ∧ SqT K H x (k.map V.int) ∧ H D = some (SetTO P w D L) ∧
  (∀ p ∈ L, SqT K H p.1 (p.2.map V.int)) ∧ L.length + 1 < 64 ∧ ∀ L' : List (Addr × List Int), (k ∈ L.map (·.2) → L' = L) → (k ∉ L.map (·.2) → L'.Perm ((x, k) :: L)) → Nx (upd H D (SetTO P w D L'))
theorem addT_ok {E : Value → Shared → Prop} {D : Addr} {y : V} {u : Value} {Nx : Hp → Prop} {Q : Value → Shared → Prop} {k : Nat} (I : Inv X pins σ H s) (hu : X.A.units + 64 < cLine) (r : RelV y u) (h : rAddT X.K X.prog X.w D y H Nx)
    (hq : ∀ s' H', Inv X pins σ H' s' → Nx H' → Q .none s') : wpAny (model X.prog X.w) X.A (call (.builtin "set.add") [.ref D, u]) Q E s := by
  obtain ⟨x, ks, L, rfl, hx, hD, hL, few, q⟩ := h
  cases r
  have R0 : SetT0 X.prog X.w s.heap D L := (I.hok D _ hD).1
  obtain ⟨es, ep, t, R⟩ := R0.full fun p hp => I.isT (hL p hp)
  have hT := I.isT hx
  obtain ⟨o, ho, hex, hd⟩ := R.ob
  have hty : s.TypeIs (.ref D) "set" := ⟨o, ho, hex.1⟩
  refine wpAny_call_entry F.slot_set_add hty F.entry_set_add ?_ (F.args_set_add_2 _ _)
  unfold Builtin.«set.add» Builtin.Frozenset.oneOther
  simp only [List.isEmpty_nil, bind_assoc]
  unfold Builtin.Frozenset.addrOf setAdd
  refine wpAny_bind (wpAny_pure ?_)
  try dsimp only
  refine wpAny_bind (wpAny_pure ?_)
  try dsimp only
  refine wpAny_bind (wpAny_holding (wpAny_bind (wpAny_pyHash_tuple (by show X.A.units + 1 < cLine; omega) hT ?_)))
  refine add_at (s := { s with toks := s.toks + (ks.length + 1) }) R hT (by show X.A.units + 1 < cLine; omega) few fun b h' L' es' ep' t' sb R' c1 c2 => ?_
  have J : Inv X pins σ (upd H D (SetTO X.prog X.w D L')) { s with heap := h', toks := s.toks + (ks.length + 1) } :=
    I.write (e := D) (by rw [hD]; trivial) (.inl rfl) (fun b u hb hu => (sb.2 b hb).trans hu) (by obtain ⟨o', ho', _⟩ := R'.ob; exact ⟨o', ho'⟩) (setTO_new R'.t0)
  show wpAny _ _ (ret Value.none) _ _ _
  exact wpAny_pure ⟨_, rfl, hq _ _ J (q L' c1 c2)⟩
def tScT (K : PySem.W.Frag) (P : Program) (w : World) (wi : TI) (g : TG) (tt : TT) (te : TE) (vs : List Nat) : TE := fun σ H Q => wi σ H fun J H1 => ∀ D, H1 D = none → ∃ W : Nat → Nat → Hp → Prop, (∃ m, W 0 m (upd H1 D (SetTO P w D []))) ∧ ∀ i m H, W i m H →
  (J.stop i H ∧ Q (.ref D) H) ∨ (J.go i H ∧ ∃ Nx : Hp → Prop, (∀ H', Nx H' → ∃ m', m' < m ∧ W (i + 1) m' H') ∧ ∀ x H', J.yld i H x H' → g x (wipe σ vs) H' fun σ2 H2 => wipe σ2 vs = wipe σ vs ∧ tt σ2 H2 fun b H3 =>
    if b = true then te σ2 H3 fun y H4 => rAddT K P w D y H4 Nx else Nx H3)
theorem pe_scT {elt tg iter : Expr} {ifs : List Expr} {scope : Scope} {own : List (PySem.Str × Nat)} {pos : Pos} {wi : TI} {g : TG} {tt : TT} {te : TE} {k : Nat} (hr : Room k X.A) (hc : X.calm = true) (hN : X.N.Nodup) (hi : PI X tg iter wi) (ok : BlkOk X.N X.env.scope scope own)
    (hg : ∀ (s : Shared) (H : Hp) (C : Addr) (cl : List (PySem.Str × Addr)) (fp : List Addr), PG (X.blk s H scope (compEnvC scope cl C X.env) fp) tg g)
    (ht : ∀ (s : Shared) (H : Hp) (C : Addr) (cl : List (PySem.Str × Addr)) (fp : List Addr), PTs (X.blk s H scope (compEnvC scope cl C X.env) fp) ifs tt)
    (he : ∀ (s : Shared) (H : Hp) (C : Addr) (cl : List (PySem.Str × Addr)) (fp : List Addr), PE (X.blk s H scope (compEnvC scope cl C X.env) fp) elt te) (hs : ∀ x, foldedSetIterable iter X.env x = pure x := by intro _; rfl) :
    PE X (.SetComp elt [⟨tg, iter, ifs, 0⟩] scope pos) (tScT X.K X.prog X.w wi g tt te (own.map (·.2))) := by
  refine ⟨fun pins s σ H Q I h => ?_⟩
  have hroom := hr.un
  rw [eval_SetComp]
  have inner : ∀ y ∈ scope.names, y.2 = .free → ∃ c, X.env.cells.lookup y.1 = some c := fun y hy e => (ok.free y hy e).elim (fun z => I.ok.has _ (.inl z)) fun z => I.ok.has _ (.inr z)
  refine wpAny_comprehension_free (use := none) rfl hs (closure_ok inner) ok.kind (fun y hy e => by rw [ok.uniq y hy, e]) (thn (hi.run pins s σ H _ I h) fun xv s1 hx => thn hx fun itv s2 h2 => ?_)
  obtain ⟨it, fp, tn, J, H2, rfl, I2, T, st2, f2, q⟩ := h2
  refine newSet_ok (newEnv_comp ?_)
  -- the new set, at D
  have fresh2 : H2 s2.heap.objs.size = none := I2.hok.fresh (Nat.le_refl _)
  obtain ⟨W, ⟨m0, w0⟩, turn⟩ := q s2.heap.objs.size fresh2
  have J3 : Inv X pins σ (upd H2 s2.heap.objs.size (SetTO X.prog X.w s2.heap.objs.size [])) { s2 with heap := s2.heap.push { cls := .type "set", dict := none, data := .set #[] 0 (.fresh 0 0 (!X.w.params.followText "set-order")) } } :=
    I2.laid (t' := s2.toks) (fun b o e => Heap.get?_push_of_some _ e) (Nat.le_refl _) (setTO_new (setTR_fresh (Heap.get?_push_size _ rfl)).t0)
  have in2 : ∀ b ∈ fp, b < s2.heap.objs.size := fun b hb => by
    obtain ⟨o, e, _⟩ := T.obj _ _ st2 b hb
    exact Heap.lt_size e
  have keep3 : ∀ b o, s2.heap.get? b = some o → (s2.heap.push { cls := .type "set", dict := none, data := .set #[] 0 (.fresh 0 0 (!X.w.params.followText "set-order")) }).get? b = some o := fun b o e => Heap.get?_push_of_some _ e
  have more3 : s2.heap.objs.size < (s2.heap.push { cls := .type "set", dict := none, data := .set #[] 0 (.fresh 0 0 (!X.w.params.followText "set-order")) }).objs.size := by rw [Heap.size_push]; exact Nat.lt_succ_self _
  generalize s2.heap.push { cls := .type "set", dict := none, data := .set #[] 0 (.fresh 0 0 (!X.w.params.followText "set-order")) } = h3 at J3 keep3 more3 ⊢
  generalize s2.heap.objs.size = D at fresh2 w0 turn J3 in2 more3 ⊢
  have fp3 : ∀ b ∈ fp, FpOk X pins (upd H2 D (SetTO X.prog X.w D [])) b ∧ b < h3.objs.size := fun b hb => by
    have hb' := in2 b hb
    refine ⟨⟨?_, (f2 b hb).2⟩, Nat.lt_trans hb' more3⟩
    rw [upd_ne (Nat.ne_of_lt hb')]
    exact (f2 b hb).1
  have st3 : tn 0 h3 := T.keep _ _ _ st2 fun b _ o e => keep3 b o e
  generalize hA : upd H2 D (SetTO X.prog X.w D []) = HA at J3 fp3 w0
  generalize hS : ({ s2 with heap := h3 } : Shared) = sA at J3
  have hSh : sA.heap = h3 := by rw [← hS]
  rw [← hSh] at fp3 st3
  have B := block_start J3 ok hN fp3
  have pg := hg sA HA sA.heap.objs.size (cellsFrom (sA.heap.objs.size + 1) scope.names (cloFrom X.env.cells scope.names [])) fp
  have pt := ht sA HA sA.heap.objs.size (cellsFrom (sA.heap.objs.size + 1) scope.names (cloFrom X.env.cells scope.names [])) fp
  have pe := he sA HA sA.heap.objs.size (cellsFrom (sA.heap.objs.size + 1) scope.names (cloFrom X.env.cells scope.names [])) fp
  show codeAny _ _ (.compStart (.SetComp elt [⟨tg, iter, ifs, 0⟩] scope pos) 0 (.ref it) (.ref D) (compEnvC scope (cellsFrom (sA.heap.objs.size + 1) scope.names (cloFrom X.env.cells scope.names [])) sA.heap.objs.size X.env)) (compPost (model X.prog X.w) X.A X.xe none (EP X pins σ Q) (.ref D) sA.heap.objs.size) { sA with heap := pushCells (sA.heap.push { cls := .type "dict", data := .dict #[] }) scope.names }
  generalize hce : compEnvC scope (cellsFrom (sA.heap.objs.size + 1) scope.names (cloFrom X.env.cells scope.names [])) sA.heap.objs.size X.env = ce at B pg pt pe ⊢
  have lce : ce.locals = sA.heap.objs.size := by subst hce; rfl
  have st4 : tn 0 (pushCells (sA.heap.push { cls := .type "dict", data := .dict #[] }) scope.names) := T.keep _ _ _ st3 fun b _ o e => pushCells_keeps _ _ _ _ (Heap.get?_push_of_some _ e)
  generalize hB : ({ sA with heap := pushCells (sA.heap.push { cls := .type "dict", data := .dict #[] }) scope.names } : Shared) = sB at B ⊢
  have st4 : tn 0 sB.heap := by rw [← hB]; exact st4
  have fpB : ∀ {σ' : L2.St} {H' : Hp} {s' : Shared}, Inv (X.blk sA HA scope ce fp) [] σ' H' s' → (∀ b ∈ fp, H' b = none) → ∀ b ∈ fp, FpOk (X.blk sA HA scope ce fp) [] H' b := fun I' hn b hb =>
    ⟨hn b hb, (I'.ok.exf b hb).1, I'.ok.exfs b hb, .inl hb, fun x c e => (I'.ok.exf b hb).2 x c e, fun p hp => by cases (show p ∈ ([] : List (Addr × Obj)) from hp)⟩
  have loop : codeAny (model X.prog X.w) X.A (.compLoop (.SetComp elt [⟨tg, iter, ifs, 0⟩] scope pos) 0 (.ref it) (.ref D) ce) (compPost (model X.prog X.w) X.A X.xe none (EP X pins σ Q) (.ref D) sA.heap.objs.size) sB := by
    refine compLoopS_any (fun n s' => ∃ i H', Inv (X.blk sA HA scope ce fp) [] (wipe σ (own.map (·.2))) H' s' ∧ tn i s'.heap ∧ (∀ b ∈ fp, H' b = none) ∧ W i n H') ?_ m0 ⟨0, HA, B, st4, fun b hb => (fp3 b hb).1.1, w0⟩
    rintro n s5 ⟨i, H5, I5, st5, n5, w5⟩
    rcases turn i n H5 w5 with ⟨stop, qq⟩ | ⟨go, Nx, hNx, step⟩
    · refine thnF (T.done (X.blk sA HA scope ce fp) rfl rfl rfl hc i [] s5 _ H5 (fun _ _ => False) I5 (fpB I5 n5) st5 stop) fun r s6 ⟨hr6, I6⟩ => ?_
      subst hr6
      have I7 : Inv X pins σ H5 s6 := J3.call' (ch := fp) I6.os I6.base I6.hok I6.bare fun b hb => ⟨(fp3 b hb).1.2.2.2.1, (fp3 b hb).1.2.1, (fp3 b hb).1.2.2.2.2.1, (fp3 b hb).1.2.2.2.2.2⟩
      have nC : H5 sA.heap.objs.size = none := by rw [← lce]; exact I6.free
      obtain ⟨m, hn, _⟩ := I6.loc
      have hn : s6.heap.Ns ce.locals m := hn
      rw [lce] at hn
      obtain ⟨f0, f1, f2, f3, f4, f5⟩ := J3.fpOk (H' := H5) (Nat.le_refl _) nC
      exact ⟨m, hn, fun h'' sb => ⟨.ref D, H5, I7.turned (t' := s6.toks) (fun b o hb e => (sb.2 b hb).trans e) f0 f1 f3 f4 f5, rfl, qq⟩⟩
    · refine thnF (T.item (X.blk sA HA scope ce fp) rfl rfl rfl hc i [] s5 _ H5 (fun _ _ => False) I5 (fpB I5 n5) st5 go) fun r s6 ⟨u, hr6, h6⟩ => ?_
      subst hr6
      refine thnF h6 fun _ s7 ⟨x, H7, I7, r7, y7, st7, n7⟩ => ?_
      refine thnF (pg.run _ s7 _ H7 x u _ (I7.pinned (fpB I7 n7) (T.obj _ _ st7)) r7 (step x H7 y7)) fun _ s8 ⟨σ8, H8, I8, hw8, q8⟩ => ?_
      refine thnF (pt.run _ s8 σ8 H8 _ I8 q8) fun b s9 ⟨H9, I9, q9⟩ => ?_
      have next : ∀ {s' : Shared} {H' : Hp}, Inv (X.blk sA HA scope ce fp) ([] ++ pinsAt fp s7.heap) σ8 H' s' → Nx H' → ∃ m, m < n ∧ ∃ i H', Inv (X.blk sA HA scope ce fp) [] (wipe σ (own.map (·.2))) H' s' ∧ tn i s'.heap ∧ (∀ b ∈ fp, H' b = none) ∧ W i m H' := fun {s' H'} I' nx => by
        obtain ⟨m', hm, w'⟩ := hNx H' nx
        have stay : ∀ b ∈ fp, ∀ o, s7.heap.get? b = some o → s'.heap.get? b = some o ∧ H' b = none := fun b hb o e => by
          obtain ⟨z1, z2, _⟩ := I'.pin (b, o) (List.mem_append_right _ (List.mem_append_right _ (mem_pinsAt hb e)))
          exact ⟨z1, z2⟩
        refine ⟨m', hm, i + 1, H', (I'.unpinned (pins := [])).weak (by rw [← hw8, wipe_length]) (fun j v e => ?_), T.keep _ _ _ st7 fun b hb o e => (stay b hb o e).1, fun b hb => ?_, w'⟩
        · rw [← hw8] at e
          exact (wipe_some e).1
        · obtain ⟨o, e, _⟩ := T.obj _ _ st7 b hb
          exact (stay b hb o e).2
      cases b with
      | false =>
        simp only [Bool.false_eq_true, if_false] at q9 ⊢
        exact next I9 q9
      | true =>
        simp only [if_true] at q9 ⊢
        refine thnF (pe.run _ s9 σ8 H9 _ I9 q9) fun z s10 ⟨yv, H10, I10, r10, nx⟩ => ?_
        exact addT_ok (X := X.blk sA HA scope ce fp) (k := 0) I10 (by show X.A.units + 64 < cLine; omega) r10 nx fun s11 H11 I11 nx' => next I11 nx'
  exact codeAny_compStart_set loop (T.self X.A 0 _ _ _ st4 loop)
end
end BS
namespace PySem
open Sem (wp)
open AutoSeq1 (wpAny_loadPart')
/-! ### enumerate(t), t a tuple -/
theorem bs_meets_enumT (l : Addr) (items : Array Value) (n : Nat) (dct : Option Addr) (sl : Array (Option Value)) :
    Meets (Builtin.«enumerate.__new__» ⟨[.type "enumerate", .ref l], []⟩) (fun _ R s => s.heap.get? l = some { cls := .type "tuple", dict := dct, data := .seq items n, slots := sl } ∧
      R (.ok (.ret (.ref (s.heap.push { cls := .type "tuple_iterator", data := .fields #[.ref l, .int 0 0] }).objs.size)))
        { s with heap := (s.heap.push { cls := .type "tuple_iterator", data := .fields #[.ref l, .int 0 0] }).push { cls := .type "enumerate", data := .fields #[.none, .bool false, .ref s.heap.objs.size, rawInt 0, .none, .none] } }) :=
  .of_wp fun prog w A R s ⟨hl, h⟩ => by
    obtain ⟨hp, g, d, tk, os⟩ := s
    have hsub := sub_enumerate
    have hT : Heap.IsTuple (Shared.heap ⟨hp, g, d, tk, os⟩) l items := ⟨_, hl, rfl, n, rfl⟩
    wp_walk using wpAny_loadPart' hl
    refine wpAny_stack_any fun st => wpAny_pure ?_
    split
    · rename_i c _ _ _ _ _
      cases (c == Value.type "enumerate") <;>
      · wp_walk using wpAny_loadPart' hl, wpAny_pyIter_tuple hT
        exact ⟨_, rfl, h⟩
    · wp_walk using wpAny_loadPart' hl, wpAny_pyIter_tuple hT
      exact ⟨_, rfl, h⟩
section
variable {prog : Program} {w : World} {A : Around} {E : Value → Shared → Prop} {s : Shared}
theorem bs_call_enumT {l : Addr} {items : Array Value} {Q : Value → Shared → Prop} (hL : s.heap.IsTuple l items)
    (h : ∀ h', IsEnum h' (s.heap.objs.size + 1) s.heap.objs.size 0 .none → h'.IsTupleIter s.heap.objs.size l 0 → h'.objs.size = s.heap.objs.size + 2 →
      (∀ b o, s.heap.get? b = some o → h'.get? b = some o) → Q (.ref (s.heap.objs.size + 1)) { s with heap := h' }) :
    wpAny (model prog w) A (call (.type "enumerate") [.ref l]) Q E s := by
  obtain ⟨⟨c, dct, dt, sl⟩, hl, rfl, n, rfl⟩ := hL
  refine callType_new F.called_enumerate (by decide) (F.typeCall_enumerate_1 _) (F.newCall_enumerate_1 _) (fun obj => F.args_object_init_2 obj _) F.entry_enumerate_new
    (bs_meets_enumT l items n dct sl) ⟨hl, ?_⟩
  have z : (s.heap.push { cls := .type "tuple_iterator", data := .fields #[.ref l, .int 0 0] }).objs.size = s.heap.objs.size + 1 := Heap.size_push ..
  have e1 := Heap.get?_push_size (s.heap.push { cls := .type "tuple_iterator", data := .fields #[.ref l, .int 0 0] })
    (o := { cls := .type "enumerate", data := .fields #[.none, .bool false, .ref s.heap.objs.size, rawInt 0, .none, .none] }) rfl
  show _ ∧ _
  rw [z] at e1 ⊢
  exact ⟨⟨_, e1, rfl⟩, h _ e1 ⟨_, Heap.get?_push_of_some _ (Heap.get?_push_size _ rfl), rfl, rfl⟩ (by rw [Heap.size_push, z]) fun b o x => Heap.get?_push_of_some _ (Heap.get?_push_of_some _ x)⟩
end
end PySem
namespace BS
open PySem PySem.Spec PyProof.Rows L2
/-- the tuple at a, each item in a new pair -/
def IteT (K : PySem.W.Frag) (a : Addr) : It :=
  ⟨fun i H => ∃ (xs : List V) (x : V), SqT K H a xs ∧ xs[i]? = some x, fun i H v H' => ∃ T x, v = .ref T ∧ H T = none ∧ H' = upd H T (.tup [.int (i : Nat), x]) ∧ ∀ xs, SqT K H a xs → xs[i]? = some x, fun i H => ∃ xs : List V, SqT K H a xs ∧ xs.length = i⟩
theorem tup_raw {X : Cx} {pins : List (Addr × Obj)} {σ : L2.St} {H : Hp} {s : Shared} (I : Inv X pins σ H s) {a : Addr} {xs : List V} (h : SqT X.K H a xs) : ∃ its : List Value, Vals xs its ∧ s.heap.IsTuple a its.toArray ∧ xs.length ≤ sizeLine := by
  obtain ⟨its, rv, ⟨o, ho, hc, n, hd⟩, hz⟩ := I.tuple h
  exact ⟨its, rv, ⟨o, ho, hc, n, hd⟩, hz⟩
theorem turn_enumT {P : Program} {w : World} {K : PySem.W.Frag} {elts : List Expr} {kk : Nat} {tpos : Pos} (a e it : Addr) :
    Turn P w K (.Tuple elts kk tpos) (IteT K a) [e, it] e (fun i h => (∃ old, IsEnum h e it ((i : Nat) : Int) old) ∧ h.IsTupleIter it a i ∧ e ≠ it ∧ a ≠ it ∧ e ≠ a) where
  mem := List.mem_cons_self
  obj := fun i h ⟨⟨old, he⟩, ⟨o, ho, hc, hd⟩, _⟩ b hb => by
    rcases List.mem_cons.mp hb with z | z
    · rw [z]; exact ⟨_, he, fun v q => nomatch q⟩
    · rw [List.mem_singleton.mp z]; exact ⟨o, ho, fun v q => by rw [hd] at q; cases q⟩
  keep := fun i h h' ⟨⟨old, he⟩, ⟨o, ho, r⟩, hne⟩ k => ⟨⟨old, k e (by simp) _ he⟩, ⟨o, k it (by simp) _ ho, r⟩, hne⟩
  item := by
    rintro X rfl rfl rfl hc i pins s σ H E I hf ⟨⟨old, he⟩, hit, hne, ha, hea⟩ ⟨xs, x, hq, hx⟩
    obtain ⟨its, rv, ht, hz⟩ := tup_raw I hq
    obtain ⟨u, hu, ru⟩ := rv.get hx
    have le : e < s.heap.objs.size := Heap.lt_size he
    have li : it < s.heap.objs.size := by obtain ⟨_, q, _⟩ := hit; exact Heap.lt_size q
    have ni : i < its.toArray.size := by
      have := (List.getElem?_eq_some_iff.mp hu).1
      simpa using this
    refine wpAny_pyNext_enum_itemD (Draws.tuple (A := X.A.in1) (I.ok.hd hc) it a ha its.toArray) he ⟨hit, ht⟩ ni hne (by simp [hne, hea]) fun y h' tk hy ho hst hT hsz hk => ?_
    have ey : y = u := by
      have hu' : its.toArray[i]? = some u := by simpa using hu
      have hy' : its.toArray[i]? = some y := hy
      rw [hu'] at hy'
      exact (Option.some.inj hy').symm
    subst ey
    refine ⟨_, rfl, wpAny_letOwnedTupleGo_enum (s := { s with heap := h', toks := tk + 1 }) ho fun h'' he' sb => ?_⟩
    have hT2 : h''.get? s.heap.objs.size = some { cls := .type "tuple", data := .seq #[.int i tk, y] } := (sb.2 _ (Nat.ne_of_gt le)).trans hT
    have new : ObjOk X.prog X.w (upd H s.heap.objs.size (.tup [.int (i : Nat), x])) h'' s.heap.objs.size (.tup [.int (i : Nat), x]) :=
      ⟨by show 2 ≤ sizeLine; decide, [.int i tk, y], .cons ⟨_, rfl⟩ (.cons ru .nil), ⟨_, hT2, rfl, _, rfl⟩⟩
    have I1 : Inv X pins σ (upd H s.heap.objs.size (.tup [.int (i : Nat), x])) { s with heap := h'', toks := tk + 1 } :=
      I.turnedNew (ch := [e, it]) (fun b ob hb q => (sb.2 b (fun z => hb (by simp [z]))).trans (hk b ob (fun z => hb (by simp [z])) (fun z => hb (by simp [z])) q)) hf (Nat.le_refl _) new
    refine ⟨.ref s.heap.objs.size, _, I1, rfl, ⟨_, x, rfl, I.hok.fresh (Nat.le_refl _), rfl, fun ys hy => by rw [I.tuple_inj hy hq]; exact hx⟩, ⟨⟨y, ?_⟩, ?_, hne, ha, hea⟩, fun b hb => ?_⟩
    · have e1 : ((i + 1 : Nat) : Int) = (i : Int) + 1 := by omega
      rw [e1]; exact he'
    · obtain ⟨o, hoo, r⟩ := hst.1
      exact ⟨o, (sb.2 it (Ne.symm hne)).trans hoo, r⟩
    · have hb' : b < s.heap.objs.size := by
        rcases List.mem_cons.mp hb with z | z
        · rw [z]; exact le
        · rw [List.mem_singleton.mp z]; exact li
      rw [upd_ne (Nat.ne_of_lt hb')]
      exact (hf b hb).1
  done := by
    rintro X rfl rfl rfl hc i pins s σ H E I hf ⟨⟨old, he⟩, hit, hne, ha, hea⟩ ⟨xs, hq, hx⟩
    obtain ⟨its, rv, ht, hz⟩ := tup_raw I hq
    obtain ⟨f0, f1, f2, f3, f4, f5⟩ := hf it (by simp)
    have hl := rv.length
    have sz : its.toArray.size = i := by rw [List.size_toArray, ← hl, hx]
    subst sz
    exact wpAny_pyNext_enum_endD (Draws.tuple (A := X.A.in1) (I.ok.hd hc) it a ha its.toArray) he ⟨hit, ht⟩ fun h' eb => ⟨rfl, I.turned (t' := s.toks) (fun b o hb q => eb b o hb q) f0 f1 f3 f4 f5⟩
  self := fun A i s Q E ⟨⟨_, he⟩, _⟩ h => wpAny_pyIter_enum he h

def iEnumT (K : PySem.W.Frag) (ta : TA) : TI := fun σ H R => ta σ H fun vs H1 => ∃ a xs, vs = [.ref a] ∧ SqT K H1 a xs ∧ R (IteT K a) H1
theorem pi_enumT {X : Cx} {e : Expr} {ta : TA} {p pos tpos : Pos} {elts : List Expr} {kk : Nat} (hg : Gl X "enumerate") (hm : X.mg "enumerate" = none) (ha : PA X [e] ta) (hs : starEach [e] X.env = [(false, eval e X.env)] := by rfl) :
    PI X (.Tuple elts kk tpos) (.Call (.Name "enumerate" p) [e] [] pos) (iEnumT X.K ta) := by
  refine ⟨fun pins s σ H R I h => ?_⟩
  refine Call_ (ld_blt I hg hm boot_enumerate (PyProof.Rows.callWith_type1 (thn (ha.run pos pins s σ H _ I h) fun us s1 ⟨vs, H1, I1, r1, a, xs, ev, hq, q⟩ => ?_) hs rfl))
  subst ev
  rw [Vals.ref1 r1]
  obtain ⟨its, rv, ht, hz⟩ := tup_raw I1 hq
  have na : a < s1.heap.objs.size := by obtain ⟨o, ho, _⟩ := ht; exact Heap.lt_size ho
  refine bs_call_enumT ht fun h' he hit hsz hk => wpAny_pyIter_enum he ?_
  have I2 : Inv X pins σ H1 { s1 with heap := h' } := I1.kept (t' := s1.toks) hk
  refine ⟨s1.heap.objs.size + 1, [s1.heap.objs.size + 1, s1.heap.objs.size], _, _, H1, rfl, I2, turn_enumT a (s1.heap.objs.size + 1) s1.heap.objs.size, ⟨⟨.none, he⟩, hit, Nat.succ_ne_self _, Nat.ne_of_lt na, Nat.ne_of_gt (Nat.lt_succ_of_lt na)⟩, fun b hb => ?_, q⟩
  have hle : s1.heap.objs.size ≤ b := by
    rcases List.mem_cons.mp hb with z | z
    · rw [z]; exact Nat.le_succ _
    · rw [List.mem_singleton.mp z]; exact Nat.le_refl _
  exact I1.fpOk hle (I1.hok.fresh hle)
theorem walk_enumT {K : PySem.W.Frag} {a : Addr} {xs : List V} : Walk (IteT K a) xs.length (fun H => SqT K H a xs) (YPair (fun i => some (.int (i : Nat))) (fun i => xs[i]?)) :=
  ⟨fun i _ hi q => ⟨xs, xs[i], q, by simp [hi]⟩, fun _ q => ⟨xs, q, rfl⟩, fun i H v H' hi q ⟨T, x, e1, e2, e3, e4⟩ => ⟨T, .int (i : Nat), x, e1, e2, e3, rfl, e4 xs q⟩⟩
/-- a set comprehension over a walk -/
theorem sc_it {J : It} {n : Nat} {G : Hp → Prop} {Y : Nat → Hp → V → Hp → Prop} {K : PySem.W.Frag} {P : Program} {w : World} (wk : Walk J n G Y) {g : TG} {tt : TT} {te : TE} {vs : List Nat} {σ : L2.St} {H1 : Hp} {D : Addr} {Qd : Hp → Prop} (Pv : Nat → Hp → Prop)
    (h0 : Pv 0 (upd H1 D (SetTO P w D []))) (hG : ∀ i H, i ≤ n → Pv i H → G H)
    (hs : ∀ i x H H', i < n → Pv i H → Y i H x H' → g x (wipe σ vs) H' fun σ2 H2 => wipe σ2 vs = wipe σ vs ∧ tt σ2 H2 fun b H3 => if b = true then te σ2 H3 fun y H4 => rAddT K P w D y H4 (Pv (i + 1)) else Pv (i + 1) H3) (hd : ∀ H, Pv n H → Qd H) :
    ∃ W : Nat → Nat → Hp → Prop, (∃ m, W 0 m (upd H1 D (SetTO P w D []))) ∧ ∀ i m H, W i m H →
      (J.stop i H ∧ Qd H) ∨ (J.go i H ∧ ∃ Nx : Hp → Prop, (∀ H', Nx H' → ∃ m', m' < m ∧ W (i + 1) m' H') ∧ ∀ x H', J.yld i H x H' → g x (wipe σ vs) H' fun σ2 H2 => wipe σ2 vs = wipe σ vs ∧ tt σ2 H2 fun b H3 =>
        if b = true then te σ2 H3 fun y H4 => rAddT K P w D y H4 Nx else Nx H3) := by
  refine ⟨fun i m H => m = n - i ∧ i ≤ n ∧ Pv i H, ⟨n, by simp, Nat.zero_le _, h0⟩, fun i m H ⟨em, hi, p⟩ => ?_⟩
  subst em
  rcases Nat.lt_or_ge i n with lt | ge
  · exact .inr ⟨wk.goes i H lt (hG i H hi p), Pv (i + 1), fun H' p' => ⟨n - (i + 1), by omega, rfl, lt, p'⟩, fun x H' y => hs i x H H' lt p (wk.yields i H x H' lt (hG i H hi p) y)⟩
  · have e : i = n := by omega
    subst e
    exact .inl ⟨wk.stops H (hG i H hi p), hd H p⟩
end BS
namespace BS
open PySem PySem.Spec PyProof.Rows L2
def top (i : Nat) : Stmt := PySem.Challenge.pw_bendsigns_k26_whole_gaskets_of_a_rim_by.main.body.getD i (.Pass ⟨0, 0, 0, 0⟩)
abbrev sIsInt : Stmt := top 14
abbrev sWithin : Stmt := top 15
abbrev sAre : Stmt := top 17
abbrev sNeedN : Stmt := top 18
abbrev sMeas : Stmt := top 20
abbrev sNeedB : Stmt := top 26
abbrev sNeedF : Stmt := top 27
abbrev sLet : Stmt := top 28
abbrev sExch : Stmt := top 29
abbrev sFour : Stmt := inClass (top 30) 0
abbrev sLow : Stmt := top 32
abbrev sDown : Stmt := top 33
abbrev sTurn : Stmt := top 36
abbrev sEnds : Stmt := top 37
abbrev sOut : Stmt := top 38
abbrev sMill : Stmt := top 40
abbrev sGrain : Stmt := top 41
abbrev sPick : Stmt := top 42
abbrev sStir : Stmt := top 43
abbrev sSwap : Stmt := top 44
abbrev sAlong : Stmt := top 45
abbrev sLTurn : Stmt := top 46
abbrev sDiv : Stmt := top 47
abbrev sRoots : Stmt := top 48
abbrev sLDown : Stmt := top 49
abbrev sLOut : Stmt := top 50
abbrev sHeard : Stmt := top 51
abbrev sAll : Stmt := top 52
abbrev sOne : Stmt := top 53
abbrev sLaw : Stmt := top 54
/-- which built-in names still mean the built-ins -/
structure Blt (mg : Str → Option Value) : Prop where
  len : mg "len" = none
  sum : mg "sum" = none
  isinstance : mg "isinstance" = none
  int : mg "int" = none
  bool : mg "bool" = none
  list : mg "list" = none
  tuple : mg "tuple" = none
  all : mg "all" = none
  enumerate : mg "enumerate" = none
  range : mg "range" = none
  sorted : mg "sorted" = none
  max : mg "max" = none
  abs : mg "abs" = none
  repr : mg "repr" = none
  dict : mg "dict" = none
  gcd : mg "gcd" = some (.builtin "math.gcd")
  places : ∃ t, mg "PLACES" = some (.int 4 t)
  letters : ∃ t, mg "MOST_LETTERS" = some (.int 200 t)
  bend : ∃ t, mg "MOST_BEND" = some (.int 60 t)
/-- a def that may be called -/
def Cal (P : Program) (w : World) (K : PySem.W.Frag) (mg : Str → Option Value) (base : Heap) (CX : CXT) (k : Nat) (x : Str) (ps : List Str) (sp : Sp) : Prop :=
  ∃ (f : Addr) (fd : FuncData), mg x = some (.ref f) ∧ PySem.W.keepIn K (.ref f) = true ∧ Binds K fd ps [] ∧ FnOk P w K mg base CX k f fd ps sp
theorem at_int {b : List Int} {p : Nat} (h : p < b.length) : (b.map V.int)[p]? = some (.int (b.getD p 0)) := by
  rw [List.getElem?_map, List.getD_eq_getElem?_getD, List.getElem?_eq_getElem h]; rfl
/-- what stands, stands at K's word too -/
theorem same_T {K : PySem.W.Frag} {H H' : Hp} {a : Addr} {xs : List V} (e : Same H H') (h : SqT K H a xs) : SqT K H' a xs := by
  rcases h with (h | ⟨o, h⟩) | h
  · exact .inl (.inl (e _ _ h))
  · exact .inl (.inr ⟨o, e _ _ h⟩)
  · exact .inr h
theorem iT {c : Bool} {A B : Prop} (hc : c = true) (h : A) : if c = true then A else B := by rw [if_pos hc]; exact h
theorem iF {c : Bool} {A B : Prop} (hc : c = false) (h : B) : if c = true then A else B := by rw [hc, if_neg Bool.false_ne_true]; exact h
theorem ixT {X : Cx} {K : PySem.W.Frag} (h : X.K = K) : IxR X (rIxT K) := by subst h; exact ix_tup
theorem ixL {X : Cx} {K : PySem.W.Frag} (h : X.K = K) : IxR X (rIxL K) := by subst h; exact ix_list
theorem same_upd {H : Hp} {p : Addr} {o : HO} (h : H p = none) : Same H (upd H p o) := fun b u e => by
  rw [upd_ne (ne_of_none e h)]; exact e
theorem same_at {H H1 : Hp} {p : Addr} {o : HO} (s : Same H H1) (n : H p = none) : Same H (upd H1 p o) := fun a u e => by rw [upd_ne (ne_of_none e n)]; exact s _ _ e
theorem ixN_nat {n j : Nat} (h : j < n) : ixN n (j : Int) = some j := by
  unfold ixN
  rw [if_pos (by omega), if_pos (by omega), Int.toNat_natCast]
theorem sz {n : Nat} (h : n < 1000) : n < sizeLine := by rw [sizeLine_eq]; omega
theorem szl {n : Nat} (h : n < 1000) : n ≤ sizeLine := Nat.le_of_lt (sz h)
theorem map_set_int (b : List Int) (p : Nat) (v : Int) : (b.map V.int).set p (.int v) = (b.set p v).map V.int := by rw [List.map_set]
theorem fr_upd {H : Hp} {p q : Addr} {o : HO} (h : q ≠ p) (n : H q = none) : (upd H p o) q = none := by rw [upd_ne h]; exact n
end BS
namespace BS
open PySem PySem.Spec PyProof.Rows L2
/-! ### let_in -/
def spLet (K : PySem.W.Frag) : Sp := fun vs H Q _ => ∃ (t : Addr) (b : List Int) (p : Nat), vs = [.ref t, .int (p : Int)] ∧ SqT K H t (b.map V.int) ∧ p < b.length ∧ Q (.int (ex b.sum (b.getD p 0))) H
section
variable {P : Program} {w : World} {K : PySem.W.Frag} {mg : Str → Option Value} {base : Heap}
theorem scLet : FnScope ["bends", "place"] ["bends", "place"] (defScope sLet) := ⟨rfl, rfl, rfl, by decide +kernel, rfl, by decide +kernel, by decide +kernel⟩
theorem ok_let {f : Addr} {fd : FuncData} (F : Fun K "let_in" "let_in" sLet f fd) (B : Blt mg) : FnOk P w K mg base CX0 1 f fd ["bends", "place"] (spLet K) := by
  refine F.ok scLet (fun vs H Q E h => ?_) (fun cdv A outer s H vs Q E hr h => ?_)
  · obtain ⟨t, b, p, rfl, _⟩ := h
    rfl
  · obtain ⟨t, b, p, rfl, ht, hp, k⟩ := h
    refine ⟨_, pss_one (ps_ret (pe_op op_sub (pe_op op_mul pe_int (pe_op op_sub (pe_callB (cr_sumT rfl) (by rfl) B.sum (by decide +kernel) (pa_cons (pv 0) pa_nil)) (pe_ix ix_tup (pv 0) (pv 1) (fun _ _ => rfl)))) (pe_ix ix_tup (pv 0) (pv 1) (fun _ _ => rfl)))), ?_⟩
    refine ⟨_, rfl, t, b, rfl, ht, _, rfl, _, rfl, t, _, p, _, rfl, rfl, ht, atI_nat (at_int hp), _, _, rfl, rfl, _, _, rfl, rfl, .inl ⟨by decide, by decide⟩, _, rfl, _, rfl, t, _, p, _, rfl, rfl, ht, atI_nat (at_int hp), _, _, rfl, rfl, ?_⟩
    exact k
/-! ### exchanged_at -/
theorem cut_sw {b : List Int} {p : Nat} (hl : b.length = 4) (hp : p < 4) : cutV (b.map V.int) none (some (p : Int)) ++ (V.int (ex b.sum (b.getD p 0)) :: (cutV (b.map V.int) (some ((p : Int) + 1)) none ++ [])) = (sw b p).map V.int := by
  obtain ⟨x, y, z, t, rfl⟩ := four_of hl
  rcases p4 hp with rfl | rfl | rfl | rfl <;> rfl
def spExch (K : PySem.W.Frag) : Sp := fun vs H Q _ => ∃ (t : Addr) (b : List Int) (p : Nat), vs = [.ref t, .int (p : Int)] ∧ SqT K H t (b.map V.int) ∧ b.length = 4 ∧ p < 4 ∧
  ∀ (u : Addr) (H' : Hp), Same H H' → H u = none → H' u = some (.tup ((sw b p).map V.int)) → Q (.ref u) H'
theorem scExch : FnScope ["bends", "place"] ["bends", "place"] (defScope sExch) := ⟨rfl, rfl, rfl, by decide +kernel, rfl, by decide +kernel, by decide +kernel⟩
theorem ok_exch {f : Addr} {fd : FuncData} (F : Fun K "exchanged_at" "exchanged_at" sExch f fd) (B : Blt mg) (cL : Cal P w K mg base CX0 1 "let_in" ["bends", "place"] (spLet K)) : FnOk P w K mg base CX0 2 f fd ["bends", "place"] (spExch K) := by
  obtain ⟨fL, fdL, mL, kL, bL, GL⟩ := cL
  refine F.ok scExch (fun vs H Q E h => ?_) (fun cdv A outer s H vs Q E hr h => ?_)
  · obtain ⟨t, b, p, rfl, _⟩ := h
    rfl
  · obtain ⟨t, b, p, rfl, ht, hl, hp, k⟩ := h
    refine ⟨_, pss_one (ps_ret (pe_tup (StX.pa_star (pe_slice sl_tup (pv 0) po_none (po_some (pv 1))) (pa_cons (pe_call GL hr rfl mL kL bL .nil pass0 (pa_cons (pv 0) (pa_cons (pv 1) pa_nil)))
      (StX.pa_star (pe_slice sl_tup (pv 0) (po_some (pe_op op_add (pv 1) pe_int)) po_none) pa_nil))))), ?_⟩
    have hlm : (b.map V.int).length = 4 := by rw [List.length_map, hl]
    refine ⟨_, rfl, _, rfl, _, rfl, t, _, rfl, ht, ?_, fun p1 n1 => ⟨p1, _, rfl, .inl (SqT.of upd_same), ?_⟩⟩
    · rw [hlm, HT.sIx_nat]; omega
    have ht1 := same_T (same_upd n1 (o := .tup (cutV (b.map V.int) none (some (p : Int))))) ht
    refine ⟨_, rfl, _, rfl, t, b, p, rfl, ht1, by omega, ?_⟩
    refine ⟨_, rfl, _, rfl, _, _, rfl, rfl, _, rfl, t, _, rfl, ht1, ?_, fun p2 n2 => ⟨p2, _, rfl, .inl (SqT.of upd_same), ?_⟩⟩
    · have e : ((p : Int) + 1) = ((p + 1 : Nat) : Int) := by omega
      rw [hlm, e, HT.sIx_nat]; omega
    have e := cut_sw hl hp
    refine ⟨?_, fun p3 n3 => ?_⟩
    · show (cutV (b.map V.int) none (some (p : Int)) ++ (V.int (ex b.sum (b.getD p 0)) :: (cutV (b.map V.int) (some ((p : Int) + 1)) none ++ []))).length ≤ sizeLine
      rw [e, List.length_map, len_sw, hl]; rw [sizeLine_eq]; decide
    have s1 : Same H _ := (same_upd n1 (o := .tup (cutV (b.map V.int) none (some (p : Int))))).trans (same_upd n2 (o := .tup (cutV (b.map V.int) (some ((p : Int) + 1)) none)))
    exact k p3 _ (s1.trans (same_upd n3)) (s1.free n3) (upd_same.trans (congrArg (fun l => some (HO.tup l)) e))
end
end BS
namespace BS
open PySem PySem.Spec PyProof.Rows L2
def lowV : Option Nat → V
  | none => .non
  | some p => .int (p : Int)
def spLow (K : PySem.W.Frag) : Sp := fun vs H Q _ => ∃ (t : Addr) (b : List Int), vs = [.ref t] ∧ SqT K H t (b.map V.int) ∧ IsF b ∧ ∀ H', Same H H' → Q (lowV (lowP b)) H'
theorem low_end {b : List Int} (h : ∀ j, j < 4 → ¬ b.sum < 2 * b.getD j 0) : lowP b = none := by
  cases e : lowP b with
  | none => rfl
  | some p => obtain ⟨h1, h2⟩ := lowP_lt e; exact absurd h2 (h p h1)
section
variable {P : Program} {w : World} {K : PySem.W.Frag} {mg : Str → Option Value} {base : Heap}
theorem scLow : FnScope ["bends", "total", "place", "bend"] ["bends"] (defScope sLow) := ⟨rfl, rfl, rfl, by decide +kernel, rfl, by decide +kernel, by decide +kernel⟩
theorem ok_low {f : Addr} {fd : FuncData} (F : Fun K "lowering" "lowering" sLow f fd) (B : Blt mg) : FnOk P w K mg base CX0 1 f fd ["bends"] (spLow K) := by
  refine F.ok scLow (fun vs H Q E h => ?_) (fun cdv A outer s H vs Q E hr h => ?_)
  · obtain ⟨t, b, rfl, _⟩ := h
    rfl
  · obtain ⟨t, b, rfl, ht, f, k⟩ := h
    refine ⟨_, pss_cons (ps_set (i := 1) scLow.nd rfl (Or.inl rfl) (pe_callB (cr_sumT rfl) (by rfl) B.sum (by decide +kernel) (pa_cons (pv 0) pa_nil)))
      (pss_cons (ps_for PassesOwn.never rfl (pi_enumT (by rfl) B.enumerate (pa_cons (pv 0) pa_nil)) (pg_tup rfl (pgs_cons (pg_name (i := 2) scLow.nd rfl (Or.inl rfl)) (pgs_cons (pg_name (i := 3) scLow.nd rfl (Or.inl rfl)) pgs_nil)))
        (pss_one (ps_if (pt_cmpR op_gt (pe_op op_mul pe_int (pv 3)) (pv 1) (nomark _)) (pss_one (ps_ret (pv 2))) pss_nil)))
      (pss_one (ps_ret pe_non))), ?_⟩
    refine ⟨_, rfl, t, b, rfl, ht, _, rfl, t, _, rfl, ht, for_it walk_enumT (fun i σ H' => ∃ x y, σ = [some (.ref t), some (.int b.sum), x, y] ∧ Same H H' ∧ ∀ j, j < i → ¬ b.sum < 2 * b.getD j 0)
      ⟨none, none, rfl, Same.refl _, fun j hj => absurd hj (Nat.not_lt_zero _)⟩ (fun i σ H' _ ⟨x, y, e, s, _⟩ => same_T s ht) ?_ ?_⟩
    · rintro i v σ H1 H2 hi ⟨x, y, rfl, s, hn⟩ ⟨T, v1, v2, rfl, nT, rfl, e1, e2⟩
      rw [List.length_map] at hi
      have e2 : (b.map V.int)[i]? = some v2 := e2
      rw [at_int hi] at e2
      cases e1; cases e2
      refine ⟨T, _, rfl, SqT.of upd_same, rfl, _, _, rfl, _, _, rfl, rfl, ?_⟩
      refine ⟨_, rfl, _, _, rfl, rfl, .inl ⟨by decide, by decide⟩, _, rfl, _, _, rfl, rfl, _, rfl, ?_⟩
      have s2 := s.trans (same_upd nT (o := .tup [.int (i : Nat), .int (b.getD i 0)]))
      by_cases c : 2 * b.getD i 0 > b.sum
      · refine iT (decide_eq_true c) ?_
        refine ⟨_, rfl, ?_⟩
        have e := lowP_some f (by rw [f.len] at hi; exact hi) c
        have := k _ s2
        rw [e] at this
        exact this
      · refine iF (decide_eq_false c) ?_
        exact ⟨_, _, rfl, s2, fun j hj => by
          rcases Nat.lt_succ_iff_lt_or_eq.mp hj with h | h
          · exact hn j h
          · subst h; exact c⟩
    · rintro σ H1 ⟨x, y, rfl, s, hn⟩
      have e := low_end (b := b) fun j hj => hn j (by rw [List.length_map, f.len]; exact hj)
      have := k _ s
      rw [e] at this
      exact this
/-! ### turned_at -/
def spTurn (K : PySem.W.Frag) : Sp := fun vs H Q _ => ∃ (t : Addr) (b : List Int) (p : Nat), vs = [.ref t, .int (p : Int)] ∧ SqT K H t (b.map V.int) ∧ b.length = 4 ∧ p < 4 ∧
  ∀ (u : Addr) (H' : Hp), Same H H' → H u = none → H' u = some (.tup ((tn b p).map V.int)) → Q (.ref u) H'
def tnI (b : List Int) (p i : Nat) : Int := if i = p then -(b.getD i 0) else b.getD i 0 + 2 * b.getD p 0
theorem tnI_all {b : List Int} {p : Nat} (hl : b.length = 4) (hp : p < 4) : (List.range 4).map (tnI b p) = tn b p := by
  obtain ⟨x, y, z, t, rfl⟩ := four_of hl
  rcases p4 hp with rfl | rfl | rfl | rfl <;> rfl
theorem map_range_succ {α : Type} (f : Nat → α) (i : Nat) : (List.range (i + 1)).map f = (List.range i).map f ++ [f i] := by
  rw [List.range_succ, List.map_append]; rfl
abbrev nTurn : List Str := ["bends", "place", "at", "bend"]
theorem scTurn : FnScope nTurn ["bends", "place"] (defScope sTurn) := ⟨rfl, rfl, rfl, by decide +kernel, rfl, by decide +kernel, by decide +kernel⟩
theorem ok_turn {f : Addr} {fd : FuncData} (F : Fun K "turned_at" "turned_at" sTurn f fd) (B : Blt mg) : FnOk P w K mg base CX0 1 f fd ["bends", "place"] (spTurn K) := by
  refine F.ok scTurn (fun vs H Q E h => ?_) (fun cdv A outer s H vs Q E hr h => ?_)
  · obtain ⟨t, b, p, rfl, _⟩ := h
    rfl
  · obtain ⟨t, b, p, rfl, ht, hl, hp, k⟩ := h
    refine ⟨_, pss_one (ps_ret (pe_callTy call_tuple_of (by rfl) B.tuple (by decide +kernel) (pa_cons (pe_lc (own := [("at", 2), ("bend", 3)]) (g := gTup K 2 (gCons (gName 2) (gCons (gName 3) gNil))) (tt := tYes) rfl scTurn.nd (pi_enumT (by rfl) B.enumerate (pa_cons (pv 0) pa_nil))
      (blkOk_by (N := nTurn) (sc := defScope sTurn) (by decide +kernel)) (fun _ _ _ _ _ => pg_tup rfl (pgs_cons (pg_name (i := 2) scTurn.nd rfl (Or.inl rfl)) (pgs_cons (pg_name (i := 3) scTurn.nd rfl (Or.inl rfl)) pgs_nil))) (fun _ _ _ _ _ => pts_nil)
      (fun _ _ _ _ _ => pe_ifExp (pt_cmpR op_eq (pv 2) (pv 1) (nomark _)) (pe_un un_neg (pv 3)) (pe_op op_add (pv 3) (pe_op op_mul pe_int (pe_ix (ixT (K := K) rfl) (pv 0) (pv 1) (fun _ _ => rfl)))))) pa_nil))), ?_⟩
    have hlm : (b.map V.int).length = 4 := by rw [List.length_map, hl]
    refine ⟨_, rfl, t, _, rfl, ht, fun D hD => lc_it walk_enumT (fun i H' => H' D = some (.lst (((List.range i).map (tnI b p)).map V.int)) ∧ Same H H') ⟨upd_same, same_upd hD⟩ (fun i H' _ ⟨_, s⟩ => same_T s ht) ?_ ?_⟩
    · rintro i v H1 H2 hi ⟨hd, s⟩ ⟨T, v1, v2, rfl, nT, rfl, e1, e2⟩
      rw [List.length_map] at hi
      have e2 : (b.map V.int)[i]? = some v2 := e2
      rw [at_int hi] at e2
      cases e1; cases e2
      have sT := same_upd nT (o := .tup [.int (i : Nat), .int (b.getD i 0)])
      refine ⟨T, _, rfl, SqT.of upd_same, rfl, _, _, rfl, _, _, rfl, rfl, rfl, ?_⟩
      have hi4 : i < 4 := by omega
      refine ⟨_, rfl, _, rfl, rfl, _, rfl, ?_⟩
      have fin : ∀ y, y = tnI b p i → ∃ acc, (upd H1 T (.tup [.int (i : Nat), .int (b.getD i 0)])) D = some (.lst acc) ∧ acc.length < sizeLine ∧ (upd (upd H1 T (.tup [.int (i : Nat), .int (b.getD i 0)])) D (.lst (acc ++ [.int y]))) D = some (.lst (((List.range (i + 1)).map (tnI b p)).map V.int)) ∧ Same H (upd (upd H1 T (.tup [.int (i : Nat), .int (b.getD i 0)])) D (.lst (acc ++ [.int y]))) := by
        intro y ey
        refine ⟨_, sT _ _ hd, ?_, ?_, fun a o ha => ?_⟩
        · rw [List.length_map, List.length_map, List.length_range, sizeLine_eq]; omega
        · rw [upd_same, map_range_succ, List.map_append, ey]; rfl
        · rw [upd_ne (ne_of_none ha hD)]; exact sT _ _ (s _ _ ha)
      by_cases c : i = p
      · refine iT (by subst c; exact decide_eq_true rfl) ?_
        refine ⟨_, rfl, _, rfl, ?_⟩
        exact fin _ (by unfold tnI; rw [if_pos c])
      · refine iF (decide_eq_false (by intro z; injection z with z; omega)) ?_
        refine ⟨_, rfl, _, rfl, _, rfl, t, _, p, _, rfl, rfl, same_T (s.trans sT) ht, atI_nat (at_int (by omega)), _, _, rfl, rfl, .inl ⟨by decide, by decide⟩, _, _, rfl, rfl, ?_⟩
        exact fin _ (by unfold tnI; rw [if_neg c])
    · rintro H1 ⟨hd, s⟩
      refine ⟨D, _, rfl, .inl ⟨SqL.of hd, fun l hl1 => k l _ (s.trans (same_upd hl1)) (s.free hl1) ?_⟩⟩
      rw [upd_same, hlm, tnI_all hl hp]
end
end BS
namespace BS
open PySem PySem.Spec PyProof.Rows L2
section
variable {P : Program} {w : World} {K : PySem.W.Frag} {mg : Str → Option Value} {base : Heap}
/-! ### _law_swapped -/
def spSwap (K : PySem.W.Frag) : Sp := fun vs H Q _ => ∃ (t : Addr) (b : List Int) (p : Nat), vs = [.ref t, .int (p : Int)] ∧ SqL K H t (b.map V.int) ∧ p < b.length ∧
  ∀ (u : Addr) (H' : Hp), Same H H' → H u = none → H' u = some (.lst ((sw b p).map V.int)) → Q (.ref u) H'
theorem scSwap : FnScope ["_law_bends", "_law_place", "_law_found"] ["_law_bends", "_law_place"] (defScope sSwap) := ⟨rfl, rfl, rfl, by decide +kernel, rfl, by decide +kernel, by decide +kernel⟩
theorem ok_swap {f : Addr} {fd : FuncData} (F : Fun K "_law_swapped" "_law_swapped" sSwap f fd) (B : Blt mg) : FnOk P w K mg base CX0 1 f fd ["_law_bends", "_law_place"] (spSwap K) := by
  refine F.ok scSwap (fun vs H Q E h => ?_) (fun cdv A outer s H vs Q E hr h => ?_)
  · obtain ⟨t, b, p, rfl, _⟩ := h
    rfl
  · obtain ⟨t, b, p, rfl, ht, hp, k⟩ := h
    refine ⟨_, pss_cons (ps_set (i := 2) scSwap.nd rfl (Or.inl rfl) (pe_callTy call_list_of (by rfl) B.list (by decide +kernel) (pa_cons (pv 0) pa_nil)))
      (pss_cons (ps_asg (pe_op op_sub (pe_op op_mul pe_int (pe_op op_sub (pe_callB (cr_sum rfl) (by rfl) B.sum (by decide +kernel) (pa_cons (pv 0) pa_nil)) (pe_ix ix_list (pv 0) (pv 1) (fun _ _ => rfl)))) (pe_ix ix_list (pv 0) (pv 1) (fun _ _ => rfl)))
        (pg_sub (pv 2) (pv 1) set_list))
      (pss_one (ps_ret (pv 2)))), ?_⟩
    refine ⟨_, rfl, t, _, rfl, .inl ht, fun l hl => ?_⟩
    have s1 := same_upd hl (o := .lst (b.map V.int))
    have ht1 := s1.seq ht
    refine ⟨_, rfl, t, b, rfl, ht1, _, rfl, _, rfl, t, _, p, _, rfl, rfl, ht1, atI_nat (at_int hp), _, _, rfl, rfl, _, _, rfl, rfl, .inl ⟨by decide, by decide⟩, _, rfl, _, rfl, t, _, p, _, rfl, rfl, ht1, atI_nat (at_int hp), _, _, rfl, rfl, ?_⟩
    refine ⟨_, rfl, _, rfl, l, _, _, p, rfl, rfl, upd_same, ixN_nat (by rw [List.length_map]; exact hp), _, rfl, ?_⟩
    refine k l _ (same_at s1 hl) hl ?_
    rw [upd_same, map_set_int]
    rfl
/-! ### _law_turned -/
def spLTurn (K : PySem.W.Frag) : Sp := fun vs H Q _ => ∃ (t : Addr) (b : List Int) (p : Nat), vs = [.ref t, .int (p : Int)] ∧ SqL K H t (b.map V.int) ∧ b.length = 4 ∧ p < b.length ∧
  ∀ (u : Addr) (H' : Hp), Same H H' → H u = none → H' u = some (.lst ((tn b p).map V.int)) → Q (.ref u) H'
abbrev nLTurn : List Str := ["_law_bends", "_law_place", "_law_found", "_law_bend"]
theorem scLTurn : FnScope nLTurn ["_law_bends", "_law_place"] (defScope sLTurn) := ⟨rfl, rfl, rfl, by decide +kernel, rfl, by decide +kernel, by decide +kernel⟩
theorem map_take_succ {b : List Int} (f : Int → V) {i : Nat} (h : i < b.length) : (b.take (i + 1)).map f = (b.take i).map f ++ [f (b.getD i 0)] := by
  rw [List.take_succ_eq_append_getElem h, List.map_append, List.getD_eq_getElem?_getD, List.getElem?_eq_getElem h]; rfl
theorem ok_lturn {f : Addr} {fd : FuncData} (F : Fun K "_law_turned" "_law_turned" sLTurn f fd) (B : Blt mg) : FnOk P w K mg base CX0 1 f fd ["_law_bends", "_law_place"] (spLTurn K) := by
  refine F.ok scLTurn (fun vs H Q E h => ?_) (fun cdv A outer s H vs Q E hr h => ?_)
  · obtain ⟨t, b, p, rfl, _⟩ := h
    rfl
  · obtain ⟨t, b, p, rfl, ht, hl4, hp, k⟩ := h
    refine ⟨_, pss_cons (ps_setLc (i := 2) (own := [("_law_bend", 3)]) (g := gName 3) (tt := tYes) rfl scLTurn.nd rfl rfl (sw_true rfl rfl rfl (by decide +kernel)) (pi_list (pv 0))
        (blkOk_by (N := nLTurn) (sc := defScope sLTurn) (by decide +kernel)) (fun _ _ _ _ _ => pg_name (i := 3) scLTurn.nd rfl (Or.inl rfl)) (fun _ _ _ _ _ => pts_nil)
        (fun _ _ _ _ _ => pe_op op_add (pv 3) (pe_op op_mul pe_int (pe_ix (ixL (K := K) rfl) (pv 0) (pv 1) (fun _ _ => rfl)))))
      (pss_cons (ps_asg (pe_un un_neg (pe_ix ix_list (pv 0) (pv 1) (fun _ _ => rfl))) (pg_sub (pv 2) (pv 1) set_list))
      (pss_one (ps_ret (pv 2)))), ?_⟩
    refine ⟨_, rfl, t, rfl, ⟨_, ht⟩, fun D hD => lc_list (K := K) (a := t) (xs := b.map V.int) (fun i H' => H' D = some (.lst ((b.take i).map fun x => .int (x + 2 * b.getD p 0))) ∧ Same H H') ⟨upd_same, same_upd hD⟩ (fun i H' _ ⟨_, s⟩ => s.seq ht) ?_ ?_⟩
    · rintro i v H1 e ⟨hd, s⟩
      have hi : i < b.length := by have := (List.getElem?_eq_some_iff.mp e).1; rwa [List.length_map] at this
      rw [at_int hi] at e
      cases e
      refine ⟨rfl, _, rfl, _, rfl, _, rfl, t, _, p, _, rfl, rfl, s.seq ht, atI_nat (at_int hp), _, _, rfl, rfl, .inl ⟨by decide, by decide⟩, _, _, rfl, rfl, ?_⟩
      refine ⟨_, hd, ?_, ?_, same_at s hD⟩
      · rw [List.length_map, List.length_take]
        exact sz (by omega)
      · rw [upd_same, map_take_succ (fun x => .int (x + 2 * b.getD p 0)) hi]
    · rintro H1 ⟨hd, s⟩
      refine ⟨_, rfl, _, rfl, t, _, p, _, rfl, rfl, s.seq ht, atI_nat (at_int hp), _, rfl, _, rfl, _, rfl, D, _, _, p, rfl, rfl, hd, ixN_nat ?_, _, rfl, ?_⟩
      · rw [List.length_map, List.length_take, List.length_map]; omega
      · refine k D _ (same_at s hD) hD (upd_same.trans ?_)
        rw [List.length_map, List.take_length]
        unfold tn
        rw [List.map_set, List.map_map]
        rfl
end
end BS
namespace BS
open PySem PySem.Spec PyProof.Rows L2
theorem eqv_nil (ds : List PyData) : PyData.eqv (.list ds) (.list []) = ds.isEmpty := by cases ds <;> simp [PyData.eqv, PyData.eqvAll]
theorem dp_ints {K : PySem.W.Frag} {H : Hp} : ∀ ns : List Int, DpAll K H (ns.map V.int) (ns.map PyData.int)
  | [] => .nil
  | n :: r => .cons (.int n) (dp_ints r)
theorem lay_ints : ∀ ns : List Int, PyData.canLayAll0 (ns.map PyData.int) = true
  | [] => by simp [PyData.canLayAll0]
  | n :: r => by
    have := lay_ints r
    simp only [List.map_cons, PyData.canLayAll0, this, PyData.canLay0, Bool.and_self]
theorem lay_row (tp : Bool) (row : List Int) : PyData.canLay0 (encR tp row) = true := by
  cases tp
  · show PyData.canLay0 (.list (row.map .int)) = true
    simp only [PyData.canLay0, lay_ints]
  · show PyData.canLay0 (.tuple (row.map .int)) = true
    simp only [PyData.canLay0, lay_ints]
theorem lay_rows (tp : Bool) : ∀ rows : List (List Int), PyData.canLayAll0 (rows.map (encR tp)) = true
  | [] => by simp [PyData.canLayAll0]
  | n :: r => by
    have := lay_rows tp r
    simp only [List.map_cons, PyData.canLayAll0, this, lay_row, Bool.and_self]
theorem depth_rows (tp : Bool) : ∀ rows : List (List Int), PyData.depthAll (rows.map (encR tp)) ≤ 1
  | [] => by simp [PyData.depthAll]
  | n :: r => by
    have := depth_rows tp r
    have h := depth_encR tp n
    simp only [List.map_cons, PyData.depthAll]
    omega
theorem shaped_ints (ns : List Int) : SeqAt.shaped (.list (ns.map PyData.int)) = true := by
  unfold SeqAt.shaped
  have h : PyData.depth (.list (ns.map PyData.int)) ≤ 64 := by
    have := PySem.W.depth_ints ns
    simp only [PyData.depth]; omega
  rw [show PyData.canLay0 (.list (ns.map PyData.int)) = true from lay_row false ns, decide_eq_true h]; rfl
/-- a list or a tuple of rows -/
def encS (tq tp : Bool) (rows : List (List Int)) : PyData := if tq = true then .tuple (rows.map (encR tp)) else .list (rows.map (encR tp))
theorem shaped_rows (tq tp : Bool) (rows : List (List Int)) : SeqAt.shaped (encS tq tp rows) = true := by
  unfold SeqAt.shaped
  have h : PyData.depth (encS tq tp rows) ≤ 64 := by
    have := depth_rows tp rows
    cases tq
    · show PyData.depth (.list _) ≤ 64
      simp only [PyData.depth]; omega
    · show PyData.depth (.tuple _) ≤ 64
      simp only [PyData.depth]; omega
  have l : PyData.canLay0 (encS tq tp rows) = true := by
    cases tq
    · show PyData.canLay0 (.list _) = true
      simp only [PyData.canLay0, lay_rows]
    · show PyData.canLay0 (.tuple _) = true
      simp only [PyData.canLay0, lay_rows]
  rw [l, decide_eq_true h]; rfl
theorem shaped_nil : SeqAt.shaped (.list []) = true := shaped_rows false true []
theorem dp_row {K : PySem.W.Frag} {H : Hp} {tp : Bool} {a : Addr} {row : List Int} (h : RowAt K tp H a row) : Dp K H (.ref a) (encR tp row) := by
  cases tp
  · exact .lst h (dp_ints row)
  · exact .tup h (dp_ints row)
theorem dp_rows {K : PySem.W.Frag} {H : Hp} {tp : Bool} : ∀ {as : List Addr} {rows : List (List Int)}, RowsAt K tp H as rows → DpAll K H (as.map V.ref) (rows.map (encR tp))
  | [], _, .nil => .nil
  | _ :: _, _, .cons h t => .cons (dp_row h) (dp_rows t)
/-- rows are equal as data when they are equal -/
theorem eqv_refl_rows (tq tp : Bool) (rows : List (List Int)) : PyData.eqv (encS tq tp rows) (encS tq tp rows) = true :=
  SeqAt.eqv_refl _ (SeqAt.canLay_of_shaped (shaped_rows tq tp rows))
theorem rowAt_same {K : PySem.W.Frag} {tp : Bool} {H H' : Hp} {a : Addr} {row : List Int} (s : Same H H') (h : RowAt K tp H a row) : RowAt K tp H' a row := by
  cases tp
  · exact s.seq h
  · exact same_T s h
theorem rows_same {K : PySem.W.Frag} {tp : Bool} {H H' : Hp} (s : Same H H') : ∀ {as : List Addr} {rows : List (List Int)}, RowsAt K tp H as rows → RowsAt K tp H' as rows
  | [], _, .nil => .nil
  | _ :: _, _, .cons h t => .cons (rowAt_same s h) (rows_same s t)
theorem rowAt_keep {K : PySem.W.Frag} {tp : Bool} {H H' : Hp} {a : Addr} {row : List Int} (s : ∀ o, H a = some o → H' a = some o) (h : RowAt K tp H a row) : RowAt K tp H' a row := by
  cases tp
  · rcases h with (h | ⟨o, h⟩) | h
    · exact .inl (.inl (s _ h))
    · exact .inl (.inr ⟨o, s _ h⟩)
    · exact .inr h
  · rcases h with (h | ⟨o, h⟩) | h
    · exact .inl (.inl (s _ h))
    · exact .inl (.inr ⟨o, s _ h⟩)
    · exact .inr h
theorem rows_keep {K : PySem.W.Frag} {tp : Bool} {H H' : Hp} : ∀ {as : List Addr} {rows : List (List Int)}, (∀ r, r ∈ as → ∀ o, H r = some o → H' r = some o) → RowsAt K tp H as rows → RowsAt K tp H' as rows
  | [], _, _, .nil => .nil
  | _ :: _, _, s, .cons h t => .cons (rowAt_keep (s _ (List.mem_cons_self ..)) h) (rows_keep (fun r hr => s r (List.mem_cons_of_mem _ hr)) t)
theorem rows_snoc {K : PySem.W.Frag} {tp : Bool} {H : Hp} {a : Addr} {row : List Int} (h1 : RowAt K tp H a row) : ∀ {as : List Addr} {rows : List (List Int)}, RowsAt K tp H as rows → RowsAt K tp H (as ++ [a]) (rows ++ [row])
  | [], _, .nil => .cons h1 .nil
  | _ :: _, _, .cons h t => .cons h (rows_snoc h1 t)
theorem rows_app {K : PySem.W.Frag} {tp : Bool} {H : Hp} : ∀ {as bs : List Addr} {rows rows' : List (List Int)}, RowsAt K tp H as rows → RowsAt K tp H bs rows' → RowsAt K tp H (as ++ bs) (rows ++ rows')
  | [], _, _, _, .nil, h => h
  | _ :: _, _, _, _, .cons h t, q => .cons h (rows_app t q)
theorem rows_get {K : PySem.W.Frag} {tp : Bool} {H : Hp} : ∀ {as : List Addr} {rows : List (List Int)}, RowsAt K tp H as rows → ∀ {i : Nat} {a : Addr}, as[i]? = some a → ∃ row, rows[i]? = some row ∧ RowAt K tp H a row
  | [], _, .nil, i, a, e => by simp at e
  | x :: xs, y :: ys, .cons h t, 0, a, e => by
    have e : x = a := by simpa using e
    subst e
    exact ⟨y, rfl, h⟩
  | x :: xs, y :: ys, .cons h t, i + 1, a, e => by
    have e : xs[i]? = some a := by simpa using e
    obtain ⟨row, e1, e2⟩ := rows_get t e
    exact ⟨row, by simpa using e1, e2⟩
theorem rows_len {K : PySem.W.Frag} {tp : Bool} {H : Hp} {as : List Addr} {rows : List (List Int)} (h : RowsAt K tp H as rows) : as.length = rows.length := Paired.length h
theorem eqv_ne_nil {rows : List (List Int)} {tp : Bool} : (!PyData.eqv (.list (rows.map (encR tp))) (.list [])) = !rows.isEmpty := by
  rw [eqv_nil]; cases rows <;> rfl
end BS
namespace BS
open PySem PySem.Spec PyProof.Rows L2
/-- all but the object at m stands as before -/
structure But (m : Addr) (H H' : Hp) : Prop where
  keep : ∀ a o, H a = some o → a ≠ m → H' a = some o
  at_ : ∃ o, H' m = some o
/-- a mill at m, its cells at c, that has turned n times at most -/
structure MillC (H : Hp) (m c : Addr) (cells : List Int) (n : Nat) : Prop where
  at_ : ∃ turn left : Int, H m = some (.lst [.ref c, .int turn, .int left]) ∧ 0 ≤ turn ∧ turn ≤ (n : Int)
  cs : H c = some (.lst (cells.map V.int))
  few : cells.length ≤ 60
theorem MillC.some_ {H : Hp} {m c : Addr} {cells : List Int} {n : Nat} (h : MillC H m c cells n) : ∃ o, H m = some o := by
  obtain ⟨turn, left, e, _⟩ := h.at_; exact ⟨_, e⟩
theorem MillC.same {H H' : Hp} {m c : Addr} {cells : List Int} {n : Nat} (h : MillC H m c cells n) (s : Same H H') : MillC H' m c cells n := by
  obtain ⟨⟨turn, left, e1, r⟩, e2, e3⟩ := h; exact ⟨⟨turn, left, s _ _ e1, r⟩, s _ _ e2, e3⟩
theorem MillC.up {H : Hp} {m c : Addr} {cells : List Int} {n n' : Nat} (h : MillC H m c cells n) (l : n ≤ n') : MillC H m c cells n' := by
  obtain ⟨⟨turn, left, e1, h0, h1⟩, e2, e3⟩ := h; exact ⟨⟨turn, left, e1, h0, by omega⟩, e2, e3⟩
theorem MillC.upd_at {H : Hp} {m c : Addr} {cells : List Int} {n : Nat} (h : MillC H m c cells n) {p : Addr} {o : HO} (hm : p ≠ m) (hc : p ≠ c) : MillC (upd H p o) m c cells n := by
  obtain ⟨⟨turn, left, e1, r⟩, e2, e3⟩ := h; exact ⟨⟨turn, left, by rw [upd_ne (Ne.symm hm)]; exact e1, r⟩, by rw [upd_ne (Ne.symm hc)]; exact e2, e3⟩
theorem But.refl {m : Addr} {H : Hp} (h : ∃ o, H m = some o) : But m H H := ⟨fun _ _ e _ => e, h⟩
theorem But.trans {m : Addr} {H H1 H2 : Hp} (a : But m H H1) (b : But m H1 H2) : But m H H2 := ⟨fun c o e n => b.keep c o (a.keep c o e n) n, b.at_⟩
theorem But.same {m : Addr} {H H1 H2 : Hp} (a : But m H H1) (b : Same H1 H2) : But m H H2 := ⟨fun c o e n => b c o (a.keep c o e n), by obtain ⟨o, e⟩ := a.at_; exact ⟨o, b _ _ e⟩⟩
theorem But.free {m : Addr} {H H' : Hp} (e : But m H H') {l : Addr} (h : H' l = none) : H l = none := by
  cases q : H l with
  | none => rfl
  | some o =>
    by_cases c : l = m
    · obtain ⟨u, z⟩ := e.at_; rw [← c, h] at z; cases z
    · rw [e.keep l o q c] at h; cases h
theorem But.ne {m : Addr} {H H' : Hp} (e : But m H H') {l : Addr} (h : H' l = none) : l ≠ m := by
  intro z; obtain ⟨u, q⟩ := e.at_; rw [← z, h] at q; cases q
theorem But.seq {K : PySem.W.Frag} {m : Addr} {H H' : Hp} {a : Addr} {xs : List V} (e : But m H H') (n : a ≠ m) (h : SqL K H a xs) : SqL K H' a xs := by
  rcases h with (h | ⟨o, h⟩) | h
  · exact .inl (.inl (e.keep _ _ h n))
  · exact .inl (.inr ⟨o, e.keep _ _ h n⟩)
  · exact .inr h
theorem But.set {m : Addr} {H : Hp} {o : HO} : But m H (upd H m o) := ⟨fun a u e n => by rw [upd_ne n]; exact e, ⟨o, upd_same⟩⟩
theorem But.upd_at {m p : Addr} {H H1 : Hp} {o : HO} (b : But m H H1) (n : H p = none) (hm : p ≠ m) : But m H (upd H1 p o) :=
  ⟨fun a u e k => by rw [upd_ne (ne_of_none e n)]; exact b.keep a u e k, by obtain ⟨u, e⟩ := b.at_; exact ⟨u, by rw [upd_ne (Ne.symm hm)]; exact e⟩⟩
theorem millne {H : Hp} {m c : Addr} {cells : List Int} {turn left : Int} (e1 : H m = some (.lst [.ref c, .int turn, .int left])) (e2 : H c = some (.lst (cells.map V.int))) : c ≠ m := by
  refine ne_of e2 e1 (fun z => ?_)
  injection z with z
  cases cells with
  | nil => cases z
  | cons x xs => injection z with z1 z2; cases z1
theorem grain_base {x t : Int} (h0 : 0 ≤ x) (h1 : x < 2147483629) (t0 : 0 ≤ t) (t1 : t ≤ 1000000) : (x + 69031 * t + 8147).natAbs < 2 ^ 64 := by omega
theorem grain_sq {t : Int} (t0 : 0 ≤ t) (t1 : t ≤ 1000000) : -(2 ^ 64) < 102233 * t ∧ 102233 * t < 2 ^ 64 := by omega
theorem grain_base2 {x t : Int} (h0 : 0 ≤ x) (h1 : x < 2147483579) (t0 : 0 ≤ t) (t1 : t ≤ 1000000) : (x * (2 * t + 8147) + 102233 * t * t + 69031).natAbs < 2 ^ 64 := by
  have a1 : x * (2 * t + 8147) ≤ 2147483579 * 2008147 := Int.mul_le_mul (by omega) (by omega) (by omega) (by omega)
  have a0 : 0 ≤ x * (2 * t + 8147) := Int.mul_nonneg h0 (by omega)
  have b1 : 102233 * t * t ≤ 102233000000 * 1000000 := Int.mul_le_mul (by omega) (by omega) (by omega) (by omega)
  have b0 : 0 ≤ 102233 * t * t := Int.mul_nonneg (by omega) t0
  omega
theorem mod_small (x : Int) : -(2 ^ 64) < x % 2147483579 ∧ x % 2147483579 < 2 ^ 64 := by omega
theorem iB {c : Bool} {A B : Prop} (h1 : c = true → A) (h0 : c = false → B) : if c = true then A else B := by
  cases c
  · exact iF rfl (h0 rfl)
  · exact iT rfl (h1 rfl)
def spGrain : Sp := fun vs H Q _ => ∃ (m c : Addr) (cells : List Int) (k : Int) (n : Nat), vs = [.ref m, .int k] ∧ MillC H m c cells n ∧ n < 1000000 ∧ 0 < k ∧ k < 1000 ∧
  ∀ (v : Nat) (H' : Hp), (v : Int) < k → MillC H' m c cells (n + 1) → But m H H' → Q (.int (v : Int)) H'
section
variable {P : Program} {w : World} {K : PySem.W.Frag} {mg : Str → Option Value} {base : Heap}
abbrev nGrain : List Str := ["_law_mill_here", "_law_many", "_law_left", "_law_turn", "_law_cell", "_law_mixed"]
theorem scGrain : FnScope nGrain ["_law_mill_here", "_law_many"] (defScope sGrain) := ⟨rfl, rfl, rfl, by decide +kernel, rfl, by decide +kernel, by decide +kernel⟩
theorem ok_grain {f : Addr} {fd : FuncData} (F : Fun K "_law_grain" "_law_grain" sGrain f fd) (B : Blt mg) : FnOk P w K mg base CX0 1 f fd ["_law_mill_here", "_law_many"] spGrain := by
  refine F.ok scGrain (fun vs H Q E h => ?_) (fun cdv A outer s H vs Q E hr h => ?_)
  · obtain ⟨m, c, cells, k, n, rfl, _⟩ := h
    rfl
  · obtain ⟨m, c, cells, k, n, rfl, ⟨⟨turn, left, e1, t0, t1⟩, e2, hc⟩, hn, k0, k1, q⟩ := h
    have hcm : c ≠ m := millne e1 e2
    have fin : ∀ (x turn' left' : Int), 0 ≤ turn' → turn' ≤ ((n + 1 : Nat) : Int) → ∀ H', (H' = upd H m (.lst [.ref c, .int turn', .int left'])) → Q (.int (x % k)) H' := by
      intro x turn' left' h0 h1 H' eH
      have p0 := Int.emod_nonneg x (show k ≠ 0 by omega)
      have p1 := Int.emod_lt_of_pos x k0
      obtain ⟨v, ev⟩ : ∃ v : Nat, x % k = (v : Int) := ⟨(x % k).toNat, by omega⟩
      rw [ev]
      subst eH
      refine q v _ (by omega) ⟨⟨turn', left', upd_same, h0, h1⟩, ?_, hc⟩ But.set
      rw [upd_ne hcm]; exact e2
    refine ⟨_, pss_cons (ps_if (pt_cmpR op_gt (pe_ix ix_list (pv 0) pe_int (fun _ _ => rfl)) pe_int (nomark _))
        (pss_cons (ps_set (i := 2) scGrain.nd rfl (Or.inl rfl) (pe_callTy call_int1 (by rfl) B.int (by decide +kernel) (pa_cons (pe_ix ix_list (pv 0) pe_int (fun _ _ => rfl)) pa_nil)))
        (pss_cons (ps_asg (pe_op op_fdiv (pv 2) (pv 1)) (pg_sub (pv 0) pe_int set_list))
        (pss_one (ps_ret (pe_op op_mod (pe_callTy call_int1 (by rfl) B.int (by decide +kernel) (pa_cons (pv 2) pa_nil)) (pv 1)))))) pss_nil)
      (pss_cons (ps_set (i := 3) scGrain.nd rfl (Or.inl rfl) (pe_ix ix_list (pv 0) pe_int (fun _ _ => rfl)))
      (pss_cons (ps_asg (pe_op op_add (pv 3) pe_int) (pg_sub (pv 0) pe_int set_list))
      (pss_cons (ps_set (i := 4) scGrain.nd rfl (Or.inl rfl) (pe_op op_add (pe_op op_mul pe_int (pv 3)) pe_int))
      (pss_cons (ps_if (pt_cmpR (op_neD hr.units) (pe_ix ix_list (pv 0) pe_int (fun _ _ => rfl)) (pe_lst pa_nil) (nomark _))
        (pss_one (ps_set (i := 4) scGrain.nd rfl (Or.inl rfl) (pe_ix ix_list (pe_ix ix_list (pv 0) pe_int (fun _ _ => rfl)) (pe_op op_mod (pe_callTy call_int1 (by rfl) B.int (by decide +kernel) (pa_cons (pv 3) pa_nil))
          (pe_callB call_len_seq (by rfl) B.len PySem.boot_len (pa_cons (pe_ix ix_list (pv 0) pe_int (fun _ _ => rfl)) pa_nil))) (fun _ _ => rfl)))) pss_nil)
      (pss_cons (ps_if (PW.pt (pw_and (pt_cmpR op_lt (pv 3) (pe_callB call_len_seq (by rfl) B.len PySem.boot_len (pa_cons (pe_ix ix_list (pv 0) pe_int (fun _ _ => rfl)) pa_nil)) (nomark _))
          (pw_and1 (pt_cmpR op_ge (pe_callB call_abs (by rfl) B.abs (by decide +kernel) (pa_cons (pv 4) pa_nil)) (pe_op op_pow pe_int pe_int) (nomark _)))))
        (pss_cons (ps_set (i := 2) scGrain.nd rfl (Or.inl rfl) (pe_op op_add (pe_op op_mul pe_int (pe_op op_sub (pe_callB call_abs (by rfl) B.abs (by decide +kernel) (pa_cons (pe_callTy call_int1 (by rfl) B.int (by decide +kernel) (pa_cons (pv 4) pa_nil)) pa_nil)) (pe_op op_pow pe_int pe_int)))
            (pe_callTy call_int1 (by rfl) B.int (by decide +kernel) (pa_cons (pe_cmpR op_lt (pv 4) pe_int (nomark _)) pa_nil))))
        (pss_cons (ps_asg (pe_op op_fdiv (pv 2) (pv 1)) (pg_sub (pv 0) pe_int set_list))
        (pss_one (ps_ret (pe_op op_mod (pe_callTy call_int1 (by rfl) B.int (by decide +kernel) (pa_cons (pv 2) pa_nil)) (pv 1)))))) pss_nil)
      (pss_cons (ps_set (i := 5) scGrain.nd rfl (Or.inl rfl) (pe_op op_mod (pe_callTy call_int1 (by rfl) B.int (by decide +kernel) (pa_cons (pe_op op_pow
          (pe_op op_add (pe_op op_add (pe_op op_mod (pe_callTy call_int1 (by rfl) B.int (by decide +kernel) (pa_cons (pv 4) pa_nil)) pe_int) (pe_op op_mul pe_int (pv 3))) pe_int) pe_int) pa_nil)) pe_int))
      (pss_cons (ps_set (i := 5) scGrain.nd rfl (Or.inl rfl) (pe_op op_mod (pe_callTy call_int1 (by rfl) B.int (by decide +kernel) (pa_cons (pe_op op_pow
          (pe_op op_add (pe_op op_add (pe_op op_mul (pv 5) (pe_op op_add (pe_op op_mul pe_int (pv 3)) pe_int)) (pe_op op_mul (pe_op op_mul pe_int (pv 3)) (pv 3))) pe_int) pe_int) pa_nil)) pe_int))
      (pss_one (ps_ret (pe_op op_mod (pe_callTy call_int1 (by rfl) B.int (by decide +kernel) (pa_cons (pe_op op_fdiv (pv 5) pe_int) pa_nil)) (pv 1))))))))))), ?_⟩
    refine ⟨_, rfl, _, _, _, _, rfl, rfl, SqL.of e1, rfl, _, _, rfl, rfl, _, rfl, ?_⟩
    by_cases hl : left > 0
    · refine iT (decide_eq_true hl) ?_
      refine ⟨_, rfl, _, _, _, _, rfl, rfl, SqL.of e1, rfl, .inl ⟨_, rfl, ?_⟩⟩
      refine ⟨_, rfl, _, rfl, _, _, rfl, rfl, ⟨k0, by omega⟩, _, rfl, _, _, _, 2, rfl, rfl, e1, rfl, ?_⟩
      refine ⟨_, rfl, .inl ⟨_, rfl, _, rfl, _, _, rfl, rfl, k0, ?_⟩⟩
      exact fin _ turn _ t0 (by omega) _ rfl
    · refine iF (decide_eq_false hl) ?_
      refine ⟨_, rfl, _, _, _, _, rfl, rfl, SqL.of e1, rfl, ?_⟩
      refine ⟨_, rfl, _, _, rfl, rfl, _, rfl, _, _, _, 1, rfl, rfl, e1, rfl, ?_⟩
      refine ⟨_, rfl, _, _, rfl, rfl, .inl ⟨by decide, by decide⟩, _, _, rfl, rfl, ?_⟩
      generalize hH : upd H m _ = H1
      have e1' : H1 m = some (.lst [.ref c, .int (turn + 1), .int left]) := by rw [← hH, upd_same]; rfl
      have e2' : H1 c = some (.lst (cells.map V.int)) := by rw [← hH, upd_ne hcm]; exact e2
      refine ⟨_, rfl, _, _, _, _, rfl, rfl, SqL.of e1', rfl, szl (by decide), fun z nz => ?_⟩
      have hzm : m ≠ z := ne_of_none e1' nz
      have hzc : c ≠ z := ne_of_none e2' nz
      refine ⟨_, _, .lst (SqL.of (by rw [upd_ne hzc]; exact e2')) (dp_ints cells), .lst (SqL.of upd_same) .nil, shaped_ints cells, shaped_nil, _, rfl, ?_⟩
      generalize hH2 : upd H1 z (.lst []) = H2
      have sx : Same H1 H2 := by rw [← hH2]; exact same_upd nz
      have g1 := sx _ _ e1'
      have g2 := sx _ _ e2'
      have bt : But m H H2 := (show But m H H1 from hH ▸ But.set).same sx
      have fin2 : ∀ (x left' : Int) H', (H' = H2 ∨ H' = upd H2 m (.lst [.ref c, .int (turn + 1), .int left'])) → Q (.int (x % k)) H' := by
        intro x left' H' eH
        have p0 := Int.emod_nonneg x (show k ≠ 0 by omega)
        have p1 := Int.emod_lt_of_pos x k0
        obtain ⟨v, ev⟩ : ∃ v : Nat, x % k = (v : Int) := ⟨(x % k).toNat, by omega⟩
        rw [ev]
        rcases eH with eH | eH
        · subst eH
          exact q v _ (by omega) ⟨⟨_, _, g1, by omega, by omega⟩, g2, hc⟩ bt
        · subst eH
          refine q v _ (by omega) ⟨⟨turn + 1, left', upd_same, by omega, by omega⟩, ?_, hc⟩ (bt.trans But.set)
          rw [upd_ne hcm]; exact g2
      have t2 : turn ≤ 1000000 := by omega
      rw [eqv_nil]
      by_cases hcs : cells = []
      · refine iF (by rw [hcs]; rfl) ?_
        refine ⟨_, rfl, _, rfl, _, _, _, _, rfl, rfl, SqL.of g1, rfl, _, _, rfl, .inl (SqL.of g2), _, _, rfl, rfl, _, rfl, ?_⟩
        refine iB (fun _ => ?_) (fun _ => iF rfl ?_)
        · refine ⟨_, rfl, _, rfl, _, _, rfl, rfl, ⟨by decide, by decide, by decide⟩, _, _, rfl, rfl, _, rfl, ?_⟩
          refine iB (fun _ => ?_) (fun _ => ?_)
          · refine ⟨_, rfl, .inl ⟨_, rfl, _, rfl, _, _, rfl, rfl, ⟨by decide, by decide, by decide⟩, _, _, rfl, rfl, _, _, rfl, rfl, .inl ⟨by decide, by decide⟩, _, rfl, _, _, rfl, rfl, .inr ⟨_, rfl, _, _, rfl, rfl, ?_⟩⟩⟩
            refine ⟨_, rfl, _, rfl, _, _, rfl, rfl, ⟨k0, by omega⟩, _, rfl, _, _, _, 2, rfl, rfl, g1, rfl, ?_⟩
            exact ⟨_, rfl, .inl ⟨_, rfl, _, rfl, _, _, rfl, rfl, k0, fin2 _ _ _ (.inr rfl)⟩⟩
          · refine ⟨_, rfl, .inl ⟨_, rfl, _, _, rfl, rfl, by show (0 : Int) < 2147483629; decide, _, rfl, _, _, rfl, rfl, .inl ⟨by decide, by decide⟩, _, _, rfl, rfl, _, _, rfl, rfl, _, _, rfl, rfl, ⟨by decide, by decide, grain_base (Int.emod_nonneg _ (by decide)) (Int.emod_lt_of_pos _ (by decide)) t0 t2⟩, .inl ⟨_, rfl, _, _, rfl, rfl, by show (0 : Int) < 2147483579; decide, ?_⟩⟩⟩
            refine ⟨_, rfl, _, rfl, _, _, rfl, rfl, .inl ⟨by decide, by decide⟩, _, _, rfl, rfl, _, _, rfl, rfl, .inl (mod_small _), _, rfl, _, _, rfl, rfl, .inl ⟨by decide, by decide⟩, _, rfl, _, _, rfl, rfl, .inl (grain_sq t0 t2), _, _, rfl, rfl, _, _, rfl, rfl, _, _, rfl, rfl, ⟨by decide, by decide, grain_base2 (Int.emod_nonneg _ (by decide)) (Int.emod_lt_of_pos _ (by decide)) t0 t2⟩, .inl ⟨_, rfl, _, _, rfl, rfl, by show (0 : Int) < 2147483563; decide, ?_⟩⟩
            exact ⟨_, rfl, _, _, rfl, rfl, ⟨by decide, by decide⟩, .inl ⟨_, rfl, _, rfl, _, _, rfl, rfl, k0, fin2 _ 0 _ (.inl rfl)⟩⟩
        · refine ⟨_, rfl, .inl ⟨_, rfl, _, _, rfl, rfl, by show (0 : Int) < 2147483629; decide, _, rfl, _, _, rfl, rfl, .inl ⟨by decide, by decide⟩, _, _, rfl, rfl, _, _, rfl, rfl, _, _, rfl, rfl, ⟨by decide, by decide, grain_base (Int.emod_nonneg _ (by decide)) (Int.emod_lt_of_pos _ (by decide)) t0 t2⟩, .inl ⟨_, rfl, _, _, rfl, rfl, by show (0 : Int) < 2147483579; decide, ?_⟩⟩⟩
          refine ⟨_, rfl, _, rfl, _, _, rfl, rfl, .inl ⟨by decide, by decide⟩, _, _, rfl, rfl, _, _, rfl, rfl, .inl (mod_small _), _, rfl, _, _, rfl, rfl, .inl ⟨by decide, by decide⟩, _, rfl, _, _, rfl, rfl, .inl (grain_sq t0 t2), _, _, rfl, rfl, _, _, rfl, rfl, _, _, rfl, rfl, ⟨by decide, by decide, grain_base2 (Int.emod_nonneg _ (by decide)) (Int.emod_lt_of_pos _ (by decide)) t0 t2⟩, .inl ⟨_, rfl, _, _, rfl, rfl, by show (0 : Int) < 2147483563; decide, ?_⟩⟩
          exact ⟨_, rfl, _, _, rfl, rfl, ⟨by decide, by decide⟩, .inl ⟨_, rfl, _, rfl, _, _, rfl, rfl, k0, fin2 _ 0 _ (.inl rfl)⟩⟩
      · have hpos : 0 < cells.length := List.length_pos_iff.mpr hcs
        refine iT (by cases cells with | nil => exact absurd rfl hcs | cons x xs => rfl) ?_
        have p0 := Int.emod_nonneg turn (show (cells.length : Int) ≠ 0 by omega)
        have p1 := Int.emod_lt_of_pos turn (show (0 : Int) < (cells.length : Int) by omega)
        obtain ⟨j, ej⟩ : ∃ j : Nat, turn % (cells.length : Int) = (j : Int) := ⟨(turn % (cells.length : Int)).toNat, by omega⟩
        refine ⟨_, rfl, _, _, _, _, rfl, rfl, SqL.of g1, rfl, _, rfl, .inl ⟨_, rfl, _, rfl, _, _, _, _, rfl, rfl, SqL.of g1, rfl, _, _, rfl, .inl (SqL.of g2), _, _, rfl, rfl, by show (0 : Int) < ((cells.map V.int).length : Int); rw [List.length_map]; omega,
          _, _, _, .int (cells.getD j 0), rfl, rfl, SqL.of g2, by rw [List.length_map, ej]; exact atI_nat (at_int (by omega)), ?_⟩⟩
        refine ⟨_, rfl, _, rfl, _, _, _, _, rfl, rfl, SqL.of g1, rfl, _, _, rfl, .inl (SqL.of g2), _, _, rfl, rfl, _, rfl, ?_⟩
        refine iB (fun _ => ?_) (fun _ => iF rfl ?_)
        · refine ⟨_, rfl, _, rfl, _, _, rfl, rfl, ⟨by decide, by decide, by decide⟩, _, _, rfl, rfl, _, rfl, ?_⟩
          refine iB (fun _ => ?_) (fun _ => ?_)
          · refine ⟨_, rfl, .inl ⟨_, rfl, _, rfl, _, _, rfl, rfl, ⟨by decide, by decide, by decide⟩, _, _, rfl, rfl, _, _, rfl, rfl, .inl ⟨by decide, by decide⟩, _, rfl, _, _, rfl, rfl, .inr ⟨_, rfl, _, _, rfl, rfl, ?_⟩⟩⟩
            refine ⟨_, rfl, _, rfl, _, _, rfl, rfl, ⟨k0, by omega⟩, _, rfl, _, _, _, 2, rfl, rfl, g1, rfl, ?_⟩
            exact ⟨_, rfl, .inl ⟨_, rfl, _, rfl, _, _, rfl, rfl, k0, fin2 _ _ _ (.inr rfl)⟩⟩
          · refine ⟨_, rfl, .inl ⟨_, rfl, _, _, rfl, rfl, by show (0 : Int) < 2147483629; decide, _, rfl, _, _, rfl, rfl, .inl ⟨by decide, by decide⟩, _, _, rfl, rfl, _, _, rfl, rfl, _, _, rfl, rfl, ⟨by decide, by decide, grain_base (Int.emod_nonneg _ (by decide)) (Int.emod_lt_of_pos _ (by decide)) t0 t2⟩, .inl ⟨_, rfl, _, _, rfl, rfl, by show (0 : Int) < 2147483579; decide, ?_⟩⟩⟩
            refine ⟨_, rfl, _, rfl, _, _, rfl, rfl, .inl ⟨by decide, by decide⟩, _, _, rfl, rfl, _, _, rfl, rfl, .inl (mod_small _), _, rfl, _, _, rfl, rfl, .inl ⟨by decide, by decide⟩, _, rfl, _, _, rfl, rfl, .inl (grain_sq t0 t2), _, _, rfl, rfl, _, _, rfl, rfl, _, _, rfl, rfl, ⟨by decide, by decide, grain_base2 (Int.emod_nonneg _ (by decide)) (Int.emod_lt_of_pos _ (by decide)) t0 t2⟩, .inl ⟨_, rfl, _, _, rfl, rfl, by show (0 : Int) < 2147483563; decide, ?_⟩⟩
            exact ⟨_, rfl, _, _, rfl, rfl, ⟨by decide, by decide⟩, .inl ⟨_, rfl, _, rfl, _, _, rfl, rfl, k0, fin2 _ 0 _ (.inl rfl)⟩⟩
        · refine ⟨_, rfl, .inl ⟨_, rfl, _, _, rfl, rfl, by show (0 : Int) < 2147483629; decide, _, rfl, _, _, rfl, rfl, .inl ⟨by decide, by decide⟩, _, _, rfl, rfl, _, _, rfl, rfl, _, _, rfl, rfl, ⟨by decide, by decide, grain_base (Int.emod_nonneg _ (by decide)) (Int.emod_lt_of_pos _ (by decide)) t0 t2⟩, .inl ⟨_, rfl, _, _, rfl, rfl, by show (0 : Int) < 2147483579; decide, ?_⟩⟩⟩
          refine ⟨_, rfl, _, rfl, _, _, rfl, rfl, .inl ⟨by decide, by decide⟩, _, _, rfl, rfl, _, _, rfl, rfl, .inl (mod_small _), _, rfl, _, _, rfl, rfl, .inl ⟨by decide, by decide⟩, _, rfl, _, _, rfl, rfl, .inl (grain_sq t0 t2), _, _, rfl, rfl, _, _, rfl, rfl, _, _, rfl, rfl, ⟨by decide, by decide, grain_base2 (Int.emod_nonneg _ (by decide)) (Int.emod_lt_of_pos _ (by decide)) t0 t2⟩, .inl ⟨_, rfl, _, _, rfl, rfl, by show (0 : Int) < 2147483563; decide, ?_⟩⟩
          exact ⟨_, rfl, _, _, rfl, rfl, ⟨by decide, by decide⟩, .inl ⟨_, rfl, _, rfl, _, _, rfl, rfl, k0, fin2 _ 0 _ (.inl rfl)⟩⟩
end
end BS
namespace BS
open PySem PySem.Spec PyProof.Rows L2
theorem map_erase (xs : List Int) (v : Nat) : (xs.map V.int).eraseIdx v = (xs.eraseIdx v).map V.int := by
  induction xs generalizing v with
  | nil => rfl
  | cons x r ih => cases v with
    | zero => rfl
    | succ v => exact congrArg (V.int x :: ·) (ih v)
theorem cut_take (ns : List Int) (k : Nat) : cutV (ns.map V.int) none (some (k : Int)) = (ns.take k).map V.int := by
  unfold cutV
  rw [HT.sIx_none, HT.sIx_nat, List.drop_zero, List.map_take, Nat.sub_zero, List.length_map]
  rcases Nat.le_total k ns.length with h | h
  · rw [Nat.min_eq_left h]
  · rw [Nat.min_eq_right h, List.take_of_length_le (by rw [List.length_map]; omega), List.take_of_length_le (by rw [List.length_map]; exact h)]
def spMill (K : PySem.W.Frag) : Sp := fun vs H Q _ => ∃ (a : Addr) (ns : List Int), vs = [.ref a] ∧ SqL K H a (ns.map V.int) ∧ ∀ m H', Same H H' → H m = none → ∀ c cells, H c = none → MillC H' m c cells 0 → Q (.ref m) H'
def spPick (K : PySem.W.Frag) : Sp := fun vs H Q _ => ∃ (m c : Addr) (cells : List Int) (a : Addr) (xs : List V) (n : Nat), vs = [.ref m, .ref a] ∧ MillC H m c cells n ∧ n < 1000000 ∧ SqL K H a xs ∧ a ≠ m ∧ 0 < xs.length ∧ xs.length < 1000 ∧
  ∀ (i : Nat) (x : V) (H' : Hp), xs[i]? = some x → MillC H' m c cells (n + 1) → But m H H' → Q x H'
section
variable {P : Program} {w : World} {K : PySem.W.Frag} {mg : Str → Option Value} {base : Heap}
abbrev nMill : List Str := ["_law_script", "_law_cell"]
theorem scMill : FnScope nMill ["_law_script"] (defScope sMill) := ⟨rfl, rfl, rfl, by decide +kernel, rfl, by decide +kernel, by decide +kernel⟩
theorem ok_mill {f : Addr} {fd : FuncData} (F : Fun K "_law_mill" "_law_mill" sMill f fd) (B : Blt mg) : FnOk P w K mg base CX0 1 f fd ["_law_script"] (spMill K) := by
  refine F.ok scMill (fun vs H Q E h => ?_) (fun cdv A outer s H vs Q E hr h => ?_)
  · obtain ⟨a, ns, rfl, _⟩ := h
    rfl
  · obtain ⟨a, ns, rfl, ha, q⟩ := h
    refine ⟨_, pss_one (ps_ret (pe_lst (pa_cons (pe_lc (own := [("_law_cell", 1)]) (g := gName 1) (tt := tYes) rfl scMill.nd (pi_list (pe_slice sl_list (pv 0) po_none (po_some pe_int)))
      (blkOk_by (N := nMill) (sc := defScope sMill) (by decide +kernel)) (fun _ _ _ _ _ => pg_name (i := 1) scMill.nd rfl (Or.inl rfl)) (fun _ _ _ _ _ => pts_nil)
      (fun _ _ _ _ _ => pe_callTy call_int1 (by rfl) B.int (by decide +kernel) (pa_cons (pv 1) pa_nil))) (pa_cons pe_int (pa_cons pe_int pa_nil))))), ?_⟩
    refine ⟨_, rfl, _, rfl, a, _, rfl, ha, fun l nl => ⟨_, rfl, ⟨_, SqL.of upd_same⟩, fun D hD => ?_⟩⟩
    have el : cutV (ns.map V.int) none (some 60) = (ns.take 60).map V.int := cut_take ns 60
    rw [el] at hD ⊢
    have hl60 : (ns.take 60).length ≤ 60 := by rw [List.length_take]; omega
    have sl := same_upd nl (o := .lst ((ns.take 60).map V.int))
    generalize ns.take 60 = cs at *
    generalize hH1 : upd H l (.lst (cs.map V.int)) = H1 at *
    have hs1 : H1 l = some (.lst (cs.map V.int)) := by rw [← hH1, upd_same]
    refine lc_list (K := K) (a := l) (xs := cs.map V.int) (fun i H' => H' D = some (.lst ((cs.take i).map V.int)) ∧ Same H1 H') ⟨upd_same, same_upd hD⟩ (fun i H' _ ⟨_, s⟩ => SqL.of (s _ _ hs1)) ?_ ?_
    · rintro i v H2 e ⟨hd, s⟩
      have hi : i < cs.length := by have := (List.getElem?_eq_some_iff.mp e).1; rwa [List.length_map] at this
      rw [at_int hi] at e
      cases e
      refine ⟨rfl, _, rfl, .inl ⟨_, rfl, _, hd, ?_, ?_, same_at s hD⟩⟩
      · rw [List.length_map, List.length_take]; exact sz (by omega)
      · rw [upd_same, map_take_succ V.int hi]
    · rintro H2 ⟨hd, s⟩
      rw [List.length_map, List.take_length] at hd
      refine ⟨szl (by show 3 < 1000; omega), fun m nm => ?_⟩
      have sm := same_upd nm (o := .lst [.ref D, .int 0, .int 0])
      exact q m _ ((sl.trans s).trans sm) ((sl.trans s).free nm) D cs (sl.free hD) ⟨⟨0, 0, upd_same, by decide, by decide⟩, sm _ _ hd, hl60⟩
theorem scPick : FnScope ["_law_mill_here", "_law_some"] ["_law_mill_here", "_law_some"] (defScope sPick) := ⟨rfl, rfl, rfl, by decide +kernel, rfl, by decide +kernel, by decide +kernel⟩
theorem ok_pick {f : Addr} {fd : FuncData} (F : Fun K "_law_pick" "_law_pick" sPick f fd) (B : Blt mg) (cG : Cal P w K mg base CX0 1 "_law_grain" ["_law_mill_here", "_law_many"] spGrain) : FnOk P w K mg base CX0 2 f fd ["_law_mill_here", "_law_some"] (spPick K) := by
  obtain ⟨fG, fdG, mG, kG, bG, GG⟩ := cG
  refine F.ok scPick (fun vs H Q E h => ?_) (fun cdv A outer s H vs Q E hr h => ?_)
  · obtain ⟨m, c, cells, a, xs, n, rfl, _⟩ := h
    rfl
  · obtain ⟨m, c, cells, a, xs, n, rfl, hm, hn, ha, am, h0, h1, q⟩ := h
    refine ⟨_, pss_one (ps_ret (pe_ix ix_list (pv 1) (pe_call GG hr rfl mG kG bG .nil pass0 (pa_cons (pv 0) (pa_cons (pe_callB call_len_seq (by rfl) B.len PySem.boot_len (pa_cons (pv 1) pa_nil)) pa_nil))) (fun _ _ => rfl))), ?_⟩
    refine ⟨_, rfl, _, rfl, _, rfl, _, _, rfl, .inl ha, m, c, cells, _, n, rfl, hm, hn, by omega, by omega, fun v H' hv mk bt => ?_⟩
    have hx : v < xs.length := by omega
    exact ⟨_, _, _, _, rfl, rfl, bt.seq am ha, atI_nat (List.getElem?_eq_getElem hx), q v _ H' (List.getElem?_eq_getElem hx) mk bt⟩
/-! ### _law_stirred -/
def spStir (K : PySem.W.Frag) : Sp := fun vs H Q _ => ∃ (m c : Addr) (cells : List Int) (a : Addr) (b : List Int) (n : Nat), vs = [.ref m, .ref a] ∧ MillC H m c cells n ∧ n + b.length < 1000000 ∧ SqL K H a (b.map V.int) ∧ a ≠ m ∧ b.length < 100 ∧
  ∀ (l : Addr) (b' : List Int) (H' : Hp), b'.Perm b → H l = none → H' l = some (.lst (b'.map V.int)) → MillC H' m c cells (n + b.length) → But m H H' → Q (.ref l) H'
abbrev nStir : List Str := ["_law_mill_here", "_law_some", "_law_left", "_law_found"]
theorem scStir : FnScope nStir ["_law_mill_here", "_law_some"] (defScope sStir) := ⟨rfl, rfl, rfl, by decide +kernel, rfl, by decide +kernel, by decide +kernel⟩
theorem seqIx {n v : Nat} (h : v < n) : seqIndex? (v : Int) n = some v := (ixN_seq (ixN_nat h)).1
theorem ok_stir {f : Addr} {fd : FuncData} (F : Fun K "_law_stirred" "_law_stirred" sStir f fd) (B : Blt mg) (cG : Cal P w K mg base CX0 1 "_law_grain" ["_law_mill_here", "_law_many"] spGrain) : FnOk P w K mg base CX0 2 f fd ["_law_mill_here", "_law_some"] (spStir K) := by
  obtain ⟨fG, fdG, mG, kG, bG, GG⟩ := cG
  refine F.ok scStir (fun vs H Q E h => ?_) (fun cdv A outer s H vs Q E hr h => ?_)
  · obtain ⟨m, c, cells, a, b, n, rfl, _⟩ := h
    rfl
  · obtain ⟨m, c, cells, a, b, n, rfl, hm, hn, ha, am, hb, q⟩ := h
    refine ⟨_, pss_cons (ps_par (i := 2) (j := 3) (by rfl) scStir.nd rfl rfl (by decide) rfl rfl (pa_cons (pe_callTy call_list_of (by rfl) B.list (by decide +kernel) (pa_cons (pv 1) pa_nil)) (pa_cons (pe_lst pa_nil) pa_nil)) (by rfl))
      (pss_cons (ps_while PassesOwn.never (pt_cmpR (op_neD hr.units) (pv 2) (pe_lst pa_nil) (nomark _))
        (pss_one (ps_expr (pe_bm PySem.F.plainAttrs_list PySem.F.slot_list_append PySem.F.type_list_append mt_append (pv 3) (pa_cons
          (pe_bm PySem.F.plainAttrs_list PySem.F.slot_list_pop PySem.F.type_list_pop mt_popAt (pv 2) (pa_cons (pe_call GG hr rfl mG kG bG .nil pass0 (pa_cons (pv 0) (pa_cons (pe_callB call_len_seq (by rfl) B.len PySem.boot_len (pa_cons (pv 2) pa_nil)) pa_nil))) pa_nil)) pa_nil)))))
      (pss_one (ps_ret (pv 3)))), ?_⟩
    refine ⟨_, rfl, a, _, rfl, .inl ha, fun l nl => ⟨szl (by decide), fun g ng => ⟨_, _, rfl, ?_⟩⟩⟩
    have s1 := same_upd nl (o := .lst (b.map V.int))
    have ng0 := s1.free ng
    have lg : l ≠ g := fun z => by rw [← z, upd_same] at ng; cases ng
    have lm : l ≠ m := by obtain ⟨o, e⟩ := hm.some_; exact (ne_of_none e nl).symm
    have gm : g ≠ m := by obtain ⟨o, e⟩ := hm.some_; exact (ne_of_none e ng0).symm
    have lc : l ≠ c := (ne_of_none hm.cs nl).symm
    have gc : g ≠ c := (ne_of_none hm.cs ng0).symm
    refine ⟨fun k σ H' => ∃ xs ys : List Int, k = xs.length ∧ σ = [some (.ref m), some (.ref a), some (.ref l), some (.ref g)] ∧ H' l = some (.lst (xs.map V.int)) ∧ H' g = some (.lst (ys.map V.int)) ∧ (ys ++ xs).Perm b ∧ MillC H' m c cells (n + ys.length) ∧ But m H H',
      ⟨_, b, [], rfl, rfl, by rw [upd_ne lg]; exact upd_same, upd_same, .refl _, (hm.same s1).same (same_upd ng), ((But.refl hm.some_).same s1).same (same_upd ng)⟩, ?_⟩
    rintro k σ H1 ⟨xs, ys, rfl, rfl, h1, h2, hp, hk, bt⟩
    have hlen : ys.length + xs.length = b.length := by have := hp.length_eq; rwa [List.length_append] at this
    refine ⟨_, rfl, szl (by decide), fun z nz => ?_⟩
    have sz1 := same_upd nz (o := .lst [])
    refine ⟨_, _, .lst (SqL.of (sz1 _ _ h1)) (dp_ints xs), .lst (SqL.of upd_same) .nil, shaped_ints xs, shaped_nil, _, rfl, ?_⟩
    generalize hH2 : upd H1 z (.lst []) = H2 at sz1 ⊢
    have g1 := sz1 _ _ h1
    have g2 := sz1 _ _ h2
    have hk2 := hk.same sz1
    have bt2 := bt.same sz1
    rw [eqv_nil]
    by_cases hx : xs = []
    · refine iF (by rw [hx]; rfl) ?_
      refine ⟨_, rfl, ?_⟩
      subst hx
      rw [List.append_nil] at hp
      refine q g ys _ hp ng0 g2 (hk2.up (by rw [← hp.length_eq]; exact Nat.le_refl _)) bt2
    · refine iT (by cases xs with | nil => exact absurd rfl hx | cons x r => rfl) ?_
      have hpos : 0 < xs.length := List.length_pos_iff.mpr hx
      refine ⟨fun σ H' => ∃ xs' ys' : List Int, xs'.length < xs.length ∧ σ = [some (.ref m), some (.ref a), some (.ref l), some (.ref g)] ∧ H' l = some (.lst (xs'.map V.int)) ∧ H' g = some (.lst (ys'.map V.int)) ∧ (ys' ++ xs').Perm b ∧ MillC H' m c cells (n + ys'.length) ∧ But m H H',
        fun σ' H' ⟨xs', ys', z1, z2⟩ => ⟨_, z1, xs', ys', rfl, z2⟩, ?_⟩
      refine ⟨_, rfl, .inl ⟨rfl, _, SqL.of g2⟩, _, rfl, .inl ⟨rfl, _, SqL.of g1⟩, _, rfl, _, rfl, _, _, rfl, .inl (SqL.of g1), m, c, cells, _, _, rfl, hk2, by omega, by rw [List.length_map]; omega, by rw [List.length_map]; omega, fun v H3 hv hk3 bt3 => ?_⟩
      rw [List.length_map] at hv
      have hv' : v < xs.length := by omega
      have f1 := bt3.keep _ _ g1 lm
      have f2 := bt3.keep _ _ g2 gm
      refine ⟨l, _, _, v, _, rfl, rfl, f1, by omega, by omega, seqIx (by rw [List.length_map]; exact hv'), at_int hv', ?_⟩
      refine ⟨g, _, _, rfl, rfl, by rw [upd_ne lg.symm]; exact f2, by rw [List.length_map]; exact sz (by omega), ?_⟩
      refine ⟨xs.eraseIdx v, ys ++ [xs.getD v 0], ?_, rfl, ?_, ?_, ?_, ?_, ?_⟩
      · rw [List.length_eraseIdx_of_lt hv']; omega
      · rw [upd_ne lg, upd_same, map_erase]
      · rw [upd_same, List.map_append]; rfl
      · refine List.Perm.trans ?_ hp
        rw [List.append_assoc]
        exact (List.Perm.refl ys).append (get_perm xs hv').symm
      · have e : n + (ys ++ [xs.getD v 0]).length = n + ys.length + 1 := by rw [List.length_append]; rfl
        rw [e]
        exact (hk3.upd_at lm lc).upd_at gm gc
      · exact ((bt2.trans bt3).upd_at nl lm).upd_at ng0 gm
end
end BS
namespace BS
open PySem PySem.Spec PyProof.Rows L2
def steps (b : List Int) (ps : List Nat) : List Int := ps.foldl sw b
theorem steps_len (ps : List Nat) : ∀ b : List Int, (steps b ps).length = b.length := by
  induction ps with
  | nil => intro b; rfl
  | cons p r ih => intro b; exact (ih (sw b p)).trans len_sw
theorem steps_snoc (b : List Int) (ps : List Nat) (p : Nat) : steps b (ps ++ [p]) = sw (steps b ps) p := by unfold steps; rw [List.foldl_append]; rfl
def wd (ps : List Nat) : List V := ps.map fun (p : Nat) => V.int (p : Int)
theorem wd_get {ps : List Nat} {i : Nat} {x : V} (h : (wd ps)[i]? = some x) : ∃ p, ps[i]? = some p ∧ x = .int (p : Int) ∧ ps.take (i + 1) = ps.take i ++ [p] := by
  unfold wd at h
  rw [List.getElem?_map] at h
  cases e : ps[i]? with
  | none => rw [e] at h; cases h
  | some p =>
    rw [e] at h
    injection h with h
    obtain ⟨hi, e2⟩ := List.getElem?_eq_some_iff.mp e
    exact ⟨p, rfl, h.symm, by rw [List.take_succ_eq_append_getElem hi, e2]⟩
theorem first_at (m : Int) : ∀ {b : List Int}, m ∈ b → ∃ q, q < b.length ∧ b.getD q 0 = m ∧ ∀ r, r < q → b.getD r 0 ≠ m
  | [], h => absurd h List.not_mem_nil
  | x :: xs, h => by
    by_cases c : x = m
    · exact ⟨0, by simp, by simpa using c, fun r hr => absurd hr (Nat.not_lt_zero _)⟩
    · rcases List.mem_cons.mp h with e | h
      · exact absurd e.symm c
      · obtain ⟨q, h1, h2, h3⟩ := first_at m h
        refine ⟨q + 1, by simpa using h1, by simpa using h2, fun r hr => ?_⟩
        cases r with
        | zero => simpa using c
        | succ r => simpa using h3 r (by omega)
theorem max_low {b : List Int} (f : IsF b) {p q : Nat} (l : lowP b = some p) (hq : q < b.length) (mx : ∀ y, y ∈ b → y ≤ b.getD q 0) : q = p := by
  obtain ⟨hp, hl⟩ := lowP_lt l
  rw [f.len] at hq
  by_cases c : q = p
  · exact c
  · have h1 := (one_low f hp hq c hl).2
    have h2 := mx (b.getD p 0) (by rw [List.getD_eq_getElem?_getD, List.getElem?_eq_getElem (by rw [f.len]; exact hp)]; exact List.getElem_mem _)
    omega
section
variable {P : Program} {w : World} {K : PySem.W.Frag} {mg : Str → Option Value} {base : Heap}
/-! ### _law_along -/
def spAlong (K : PySem.W.Frag) : Sp := fun vs H Q _ => ∃ (t u : Addr) (b : List Int) (ps : List Nat), vs = [.ref t, .ref u] ∧ SqL K H t (b.map V.int) ∧ SqL K H u (wd ps) ∧ b.length = 4 ∧ (∀ p ∈ ps, p < 4) ∧
  ∀ (l : Addr) (H' : Hp), Same H H' → H l = none → H' l = some (.lst ((steps b ps).map V.int)) → Q (.ref l) H'
abbrev nAlong : List Str := ["_law_bends", "_law_word", "_law_found", "_law_place"]
theorem scAlong : FnScope nAlong ["_law_bends", "_law_word"] (defScope sAlong) := ⟨rfl, rfl, rfl, by decide +kernel, rfl, by decide +kernel, by decide +kernel⟩
theorem ok_along {f : Addr} {fd : FuncData} (F : Fun K "_law_along" "_law_along" sAlong f fd) (B : Blt mg) (cS : Cal P w K mg base CX0 1 "_law_swapped" ["_law_bends", "_law_place"] (spSwap K)) : FnOk P w K mg base CX0 2 f fd ["_law_bends", "_law_word"] (spAlong K) := by
  obtain ⟨fS, fdS, mS, kS, bS, GS⟩ := cS
  refine F.ok scAlong (fun vs H Q E h => ?_) (fun cdv A outer s H vs Q E hr h => ?_)
  · obtain ⟨t, u, b, ps, rfl, _⟩ := h
    rfl
  · obtain ⟨t, u, b, ps, rfl, ht, hu, hl, h4, q⟩ := h
    refine ⟨_, pss_cons (ps_set (i := 2) scAlong.nd rfl (Or.inl rfl) (pe_callTy call_list_of (by rfl) B.list (by decide +kernel) (pa_cons (pv 0) pa_nil)))
      (pss_cons (ps_for PassesOwn.never rfl (pi_list (pv 1)) (pg_name (i := 3) scAlong.nd rfl (Or.inl rfl))
        (pss_one (ps_set (i := 2) scAlong.nd rfl (Or.inl rfl) (pe_call GS hr rfl mS kS bS .nil pass0 (pa_cons (pv 2) (pa_cons (pv 3) pa_nil))))))
      (pss_one (ps_ret (pv 2)))), ?_⟩
    refine ⟨_, rfl, t, _, rfl, .inl ht, fun l nl => ?_⟩
    have s1 := same_upd nl (o := .lst (b.map V.int))
    refine ⟨_, rfl, u, rfl, ⟨_, s1.seq hu⟩, for_list (xs := wd ps) (fun i σ H' => ∃ l x, σ = [some (.ref t), some (.ref u), some (.ref l), x] ∧ H' l = some (.lst ((steps b (ps.take i)).map V.int)) ∧ H l = none ∧ Same H H')
      ⟨l, none, rfl, upd_same, nl, s1⟩ (fun i σ H' _ ⟨l, x, _, _, _, s⟩ => s.seq hu) ?_ ?_⟩
    · rintro i x σ H1 e ⟨l, y, rfl, hl1, nl1, s⟩
      obtain ⟨p, ep, rfl, et⟩ := wd_get e
      have hp := h4 p (List.mem_of_getElem? ep)
      refine ⟨_, rfl, _, rfl, l, _, p, rfl, SqL.of hl1, by rw [steps_len, hl]; exact hp, fun l2 H2 s2 n2 e2 => ?_⟩
      exact ⟨l2, _, rfl, by rw [et, steps_snoc]; exact e2, s.free n2, s.trans s2⟩
    · rintro σ H1 ⟨l, x, rfl, hl1, nl1, s⟩
      refine ⟨_, rfl, q l H1 s nl1 ?_⟩
      have : (wd ps).length = ps.length := List.length_map _
      rw [hl1, this, List.take_length]
/-! ### _law_divisor -/
def spDiv : Sp := fun vs H Q _ => ∃ a b : Nat, vs = [.int (a : Int), .int (b : Int)] ∧ Q (.int ((Nat.gcd a b : Nat) : Int)) H
abbrev nDiv : List Str := ["_law_one", "_law_other"]
theorem scDiv : FnScope nDiv ["_law_one", "_law_other"] (defScope sDiv) := ⟨rfl, rfl, rfl, by decide +kernel, rfl, by decide +kernel, by decide +kernel⟩
theorem ok_div {f : Addr} {fd : FuncData} (F : Fun K "_law_divisor" "_law_divisor" sDiv f fd) (B : Blt mg) : FnOk P w K mg base CX0 1 f fd ["_law_one", "_law_other"] spDiv := by
  refine F.ok scDiv (fun vs H Q E h => ?_) (fun cdv A outer s H vs Q E hr h => ?_)
  · obtain ⟨a, b, rfl, _⟩ := h
    rfl
  · obtain ⟨a, b, rfl, q⟩ := h
    refine ⟨_, pss_cons (ps_par (i := 0) (j := 1) (by rfl) scDiv.nd rfl rfl (by decide) rfl rfl (pa_cons (pe_callB call_abs (by rfl) B.abs (by decide +kernel) (pa_cons (pv 0) pa_nil)) (pa_cons (pe_callB call_abs (by rfl) B.abs (by decide +kernel) (pa_cons (pv 1) pa_nil)) pa_nil)) (by rfl))
      (pss_cons (ps_while PassesOwn.never (pt_cmpR op_ne (pv 1) pe_int (nomark _))
        (pss_one (ps_par (i := 0) (j := 1) (by rfl) scDiv.nd rfl rfl (by decide) rfl rfl (pa_cons (pv 1) (pa_cons (pe_op op_mod (pe_callTy call_int1 (by rfl) B.int (by decide +kernel) (pa_cons (pv 0) pa_nil)) (pv 1)) pa_nil)) (by rfl))))
      (pss_one (ps_ret (pv 0)))), ?_⟩
    refine ⟨_, rfl, _, rfl, _, rfl, _, rfl, _, _, rfl, ?_⟩
    have e0 : ∀ x : Nat, (if (x : Int) < 0 then -(x : Int) else (x : Int)) = (x : Int) := fun x => if_neg (by omega)
    rw [e0, e0]
    refine ⟨fun k σ H' => ∃ x y : Nat, k = y ∧ σ = [some (.int (x : Int)), some (.int (y : Int))] ∧ H' = H ∧ Nat.gcd x y = Nat.gcd a b, ⟨_, a, b, rfl, rfl, rfl, rfl⟩, ?_⟩
    rintro k σ H1 ⟨x, y, rfl, rfl, rfl, hg⟩
    refine ⟨_, rfl, rfl, _, rfl, ?_⟩
    by_cases c : k = 0
    · subst c
      refine iF rfl ⟨_, rfl, ?_⟩
      rw [Nat.gcd_zero_right] at hg
      rw [hg]; exact q
    · refine iT (by show (!decide (V.int (k : Int) = V.int 0)) = true; rw [decide_eq_false (fun z => by injection z with z; omega)]; rfl) ?_
      refine ⟨fun σ H' => ∃ x y : Nat, y < k ∧ σ = [some (.int (x : Int)), some (.int (y : Int))] ∧ H' = H1 ∧ Nat.gcd x y = Nat.gcd a b, fun σ' H' ⟨x, y, h1, h2⟩ => ⟨y, h1, x, y, rfl, h2⟩, ?_⟩
      refine ⟨_, rfl, _, rfl, .inl ⟨_, rfl, _, rfl, _, _, rfl, rfl, by omega, _, _, rfl, ?_⟩⟩
      refine ⟨k, x % k, Nat.mod_lt _ (by omega), ?_, rfl, ?_⟩
      · show [some (V.int (k : Int)), some (V.int ((x : Int) % (k : Int)))] = _
        rw [← Int.natCast_emod]
      · rw [Nat.gcd_comm, ← Nat.gcd_rec, Nat.gcd_comm]; exact hg
end
end BS
namespace BS
open PySem PySem.Spec PyProof.Rows L2
section
variable {P : Program} {w : World} {K : PySem.W.Frag} {mg : Str → Option Value} {base : Heap}
/-! ### _law_down -/
def spLDown (K : PySem.W.Frag) : Sp := fun vs H Q _ => ∃ (t : Addr) (b l : List Int) (k : Nat), vs = [.ref t] ∧ SqL K H t (b.map V.int) ∧ IsF b ∧ Dn b k l ∧ k < 2000 ∧
  ∀ (u p q : Addr) (H' : Hp), Same H H' → H' u = some (.tup [.ref p, .ref q]) → H' p = some (.lst (l.map V.int)) → H p = none → Q (.ref u) H'
abbrev nLDown : List Str := ["_law_bends", "_law_low", "_law_word", "_law_turn", "_law_place", "_law_other"]
theorem scLDown : FnScope nLDown ["_law_bends"] (defScope sLDown) := ⟨rfl, rfl, rfl, by decide +kernel, rfl, by decide +kernel, by decide +kernel⟩
theorem flat_ints (b : List Int) : (b.map V.int).all flatV = true := by
  rw [List.all_eq_true]
  intro x hx
  obtain ⟨i, _, rfl⟩ := List.mem_map.mp hx
  rfl
theorem ok_ldown {f : Addr} {fd : FuncData} (F : Fun K "_law_down" "_law_down" sLDown f fd) (B : Blt mg) (cS : Cal P w K mg base CX0 1 "_law_swapped" ["_law_bends", "_law_place"] (spSwap K)) : FnOk P w K mg base CX0 2 f fd ["_law_bends"] (spLDown K) := by
  obtain ⟨fS, fdS, mS, kS, bS, GS⟩ := cS
  refine F.ok scLDown (fun vs H Q E h => ?_) (fun cdv A outer s H vs Q E hr h => ?_)
  · obtain ⟨t, b, l, k, rfl, _⟩ := h
    rfl
  · obtain ⟨t, b, l, k, rfl, ht, fb, dn, hk, q⟩ := h
    refine ⟨_, pss_cons (ps_par (i := 1) (j := 2) (by rfl) scLDown.nd rfl rfl (by decide) rfl rfl (pa_cons (pe_callTy call_list_of (by rfl) B.list (by decide +kernel) (pa_cons (pv 0) pa_nil)) (pa_cons (pe_lst pa_nil) pa_nil)) (by rfl))
      (pss_cons (ps_for PassesOwn.never rfl (pi_range1 rfl B.range (pa_cons pe_int pa_nil)) (pg_name (i := 3) scLDown.nd rfl (Or.inl rfl))
        (pss_cons (ps_set (i := 4) scLDown.nd rfl (Or.inl rfl) (pe_bm PySem.F.plainAttrs_list PySem.F.slot_list_index PySem.F.type_list_index mt_index (pv 1) (pa_cons (pe_callB (cr_max rfl) (by rfl) B.max (by decide +kernel) (pa_cons (pv 1) pa_nil)) pa_nil)))
        (pss_cons (ps_set (i := 5) scLDown.nd rfl (Or.inl rfl) (pe_call GS hr rfl mS kS bS .nil pass0 (pa_cons (pv 1) (pa_cons (pv 4) pa_nil))))
        (pss_cons (ps_if (pt_cmpR op_ge (pe_ix ix_list (pv 5) (pv 4) (fun _ _ => rfl)) (pe_ix ix_list (pv 1) (pv 4) (fun _ _ => rfl)) (nomark _))
          (pss_one (ps_ret (pe_tup (pa_cons (pv 1) (pa_cons (pe_revL (pv 2)) pa_nil))))) pss_nil)
        (pss_cons (ps_set (i := 1) scLDown.nd rfl (Or.inl rfl) (pv 5))
        (pss_one (ps_expr (pe_bm PySem.F.plainAttrs_list PySem.F.slot_list_append PySem.F.type_list_append mt_append (pv 2) (pa_cons (pv 4) pa_nil)))))))))
      (pss_one (ps_ret (pe_tup (pa_cons (pv 1) (pa_cons (pe_revL (pv 2)) pa_nil)))))), ?_⟩
    refine ⟨_, rfl, t, _, rfl, .inl ht, fun l1 nl => ⟨szl (by decide), fun g ng => ⟨_, _, rfl, ?_⟩⟩⟩
    have s1 := same_upd nl (o := .lst (b.map V.int))
    have ng0 := s1.free ng
    have lg : l1 ≠ g := fun z => by rw [← z, upd_same] at ng; cases ng
    refine ⟨2000, rfl, by decide, by decide, for_range (n := 2000) (fun i σ H' => ∃ (p : Addr) (c : List Int) (j : Nat) (ws : List V) (x y z : Option V), σ = [some (.ref t), some (.ref p), some (.ref g), x, y, z] ∧ H' p = some (.lst (c.map V.int)) ∧ H p = none ∧ p ≠ g ∧ H' g = some (.lst ws) ∧ ws.length = i ∧ IsF c ∧ Dn c j l ∧ i + j = k ∧ Same H H')
      ⟨l1, b, k, [], none, none, none, rfl, by rw [upd_ne lg]; exact upd_same, nl, lg, upd_same, rfl, fb, dn, by omega, same_at s1 ng0⟩ ?_ ?_⟩
    · rintro i σ H1 hi ⟨p, c, j, ws, x, y, z, rfl, hp, np, pg, hg, hw, fc, dc, hij, s⟩
      have hl := fc.len
      refine ⟨_, rfl, .inl ⟨rfl, _, SqL.of hp⟩, _, rfl, p, c, rfl, SqL.of hp, by omega, fun m hm mx => ?_⟩
      obtain ⟨r, hr1, hr2, hr3⟩ := first_at m hm
      refine ⟨p, _, _, r, _, rfl, rfl, SqL.of hp, rfl, flat_ints c, at_int hr1, by rw [hr2]; exact beq_self_eq_true m, fun a z' ha ea => ?_, ?_⟩
      · rw [at_int (show a < c.length by omega)] at ea
        cases ea
        exact beq_eq_false_iff_ne.mpr (hr3 a ha)
      · have mx' : ∀ y, y ∈ c → y ≤ c.getD r 0 := fun y hy => by rw [hr2]; exact mx y hy
        refine ⟨_, rfl, _, rfl, p, c, r, rfl, SqL.of hp, hr1, fun u H2 s2 nu hu => ?_⟩
        have ns := s.free nu
        have hp2 := s2 _ _ hp
        have gu : g ≠ u := ne_of_none hg nu
        refine ⟨_, rfl, _, rfl, u, _, r, _, rfl, rfl, SqL.of hu, atI_nat (at_int (by rw [len_sw]; exact hr1)), _, rfl, _, rfl, p, _, r, _, rfl, rfl, SqL.of hp2, atI_nat (at_int hr1), _, _, rfl, rfl, _, rfl, ?_⟩
        rw [get_sw hl (by omega)]
        cases dc with
        | stop h =>
          have h1 := lowP_none h (show r < 4 by omega)
          refine iT (decide_eq_true (by show ex l.sum (l.getD r 0) ≥ l.getD r 0; unfold ex; omega)) ?_
          refine ⟨_, rfl, _, rfl, g, _, rfl, SqL.of (s2 _ _ hg), fun v nv => ⟨szl (by show 2 < 1000; omega), fun o no => ?_⟩⟩
          have s3 := (same_upd nv (o := .lst ws.reverse))
          exact q o p v _ (((s.trans s2).trans s3).trans (same_upd no)) upd_same ((same_upd no) _ _ (s3 _ _ hp2)) np
        | step h d =>
          rename_i k' p'
          have e : r = p' := max_low fc h hr1 mx'
          subst e
          have h1 := (lowP_lt h).2
          refine iF (decide_eq_false (by show ¬ ex c.sum (c.getD r 0) ≥ c.getD r 0; unfold ex; omega)) ?_
          refine ⟨_, rfl, _, rfl, .inl ⟨rfl, _, SqL.of (s2 _ _ hg)⟩, _, rfl, g, _, _, rfl, rfl, s2 _ _ hg, ?_, ?_⟩
          · rw [sizeLine_eq]; omega
          · refine ⟨u, sw c r, k', ws ++ [.int (r : Int)], _, _, _, rfl, by rw [upd_ne gu.symm]; exact hu, ns, gu.symm, upd_same, by rw [List.length_append, hw]; rfl, isF_sw fc (by omega), d, by omega, same_at (s.trans s2) ng0⟩
    · rintro σ H1 ⟨p, c, j, ws, x, y, z, rfl, hp, np, pg, hg, hw, fc, dc, hij, s⟩
      omega
end
end BS
namespace BS
open PySem PySem.Spec PyProof.Rows L2
def rIn (s a h : Nat) : List (List Int) := if okR s a h ((s * s + h * h) / a) then [rowOf s a h ((s * s + h * h) / a : Nat)] else []
def rMid (s a n : Nat) : List (List Int) := (List.range n).flatMap (rIn s a)
def rOut (s n : Nat) : List (List Int) := (List.range' 1 n).flatMap fun a => rMid s a (a / 2 + 1)
theorem roots_eq {s : Nat} (h : s ≠ 0) : roots s = rOut s (2 * s - 1) := if_neg h
theorem rMid_succ (s a n : Nat) : rMid s a (n + 1) = rMid s a n ++ rIn s a n := by
  unfold rMid
  rw [List.range_succ, List.flatMap_append]
  simp
theorem rOut_succ (s n : Nat) : rOut s (n + 1) = rOut s n ++ rMid s (1 + n) ((1 + n) / 2 + 1) := by
  unfold rOut
  rw [List.range'_1_concat, List.flatMap_append]
  simp
theorem rIn_len (s a h : Nat) : (rIn s a h).length ≤ 1 := by
  unfold rIn
  by_cases c : okR s a h ((s * s + h * h) / a) = true
  · rw [if_pos c]; exact Nat.le_refl _
  · rw [if_neg c]; exact Nat.zero_le _
theorem rMid_len (s a : Nat) : ∀ n, (rMid s a n).length ≤ n
  | 0 => Nat.le_refl _
  | n + 1 => by
    rw [rMid_succ, List.length_append]
    have h1 := rMid_len s a n
    have h2 := rIn_len s a n
    omega
theorem rOut_len (s : Nat) : ∀ n, n ≤ 31 → (rOut s n).length ≤ 17 * n
  | 0, _ => Nat.le_refl _
  | n + 1, h => by
    rw [rOut_succ, List.length_append]
    have h1 := rOut_len s n (by omega)
    have h2 := rMid_len s (1 + n) ((1 + n) / 2 + 1)
    omega
def spRoots (K : PySem.W.Frag) : Sp := fun vs H Q _ => ∃ s : Nat, vs = [.int (s : Int)] ∧ s ≤ 16 ∧
  ∀ (l : Addr) (refs : List Addr) (H' : Hp), Same H H' → H l = none → H' l = some (.lst (refs.map V.ref)) → RowsAt K false H' refs (roots s) → (∀ a ∈ refs, H a = none) → Q (.ref l) H'
abbrev nRoots : List Str := ["_law_size", "_law_found", "_law_first", "_law_half", "_law_last"]
section
variable {P : Program} {w : World} {K : PySem.W.Frag} {mg : Str → Option Value} {base : Heap}
theorem scRoots : FnScope nRoots ["_law_size"] (defScope sRoots) := ⟨rfl, rfl, rfl, by decide +kernel, rfl, by decide +kernel, by decide +kernel⟩
theorem ok_roots {f : Addr} {fd : FuncData} (F : Fun K "_law_roots" "_law_roots" sRoots f fd) (B : Blt mg) (cD : Cal P w K mg base CX0 1 "_law_divisor" ["_law_one", "_law_other"] spDiv) : FnOk P w K mg base CX0 2 f fd ["_law_size"] (spRoots K) := by
  obtain ⟨fD, fdD, mD, kD, bD, GD⟩ := cD
  refine F.ok scRoots (fun vs H Q E h => ?_) (fun cdv A outer s0 H vs Q E hr h => ?_)
  · obtain ⟨s, rfl, _⟩ := h
    rfl
  · obtain ⟨s, rfl, hs, q⟩ := h
    refine ⟨_, pss_cons (ps_if (pt_cmpR op_eq (pv 0) pe_int (nomark _)) (pss_one (ps_ret (pe_lst (pa_cons (pe_lst (pa_cons pe_int (pa_cons pe_int (pa_cons pe_int (pa_cons pe_int pa_nil))))) pa_nil)))) pss_nil)
      (pss_cons (ps_set (i := 1) scRoots.nd rfl (Or.inl rfl) (pe_lst pa_nil))
      (pss_cons (ps_for PassesOwn.never rfl (pi_range2 rfl B.range (pa_cons pe_int (pa_cons (pe_op op_mul pe_int (pv 0)) pa_nil))) (pg_name (i := 2) scRoots.nd rfl (Or.inl rfl))
        (pss_one (ps_for PassesOwn.never rfl (pi_range1 rfl B.range (pa_cons (pe_op op_add (pe_op op_fdiv (pv 2) pe_int) pe_int) pa_nil)) (pg_name (i := 3) scRoots.nd rfl (Or.inl rfl))
          (pss_cons (ps_set (i := 4) scRoots.nd rfl (Or.inl rfl) (pe_op op_fdiv (pe_op op_add (pe_op op_mul (pv 0) (pv 0)) (pe_op op_mul (pv 3) (pv 3))) (pv 2)))
          (pss_one (ps_if (PW.pt (pw_and (pt_cmpR op_eq (pe_op op_mul (pv 2) (pv 4)) (pe_op op_add (pe_op op_mul (pv 0) (pv 0)) (pe_op op_mul (pv 3) (pv 3))) (nomark _))
              (pw_and (pt_cmpR op_le (pv 2) (pv 4) (nomark _))
              (pw_and1 (pt_cmpR op_eq (pe_call GD hr rfl mD kD bD .nil pass0 (pa_cons (pe_call GD hr rfl mD kD bD .nil pass0 (pa_cons (pv 2) (pa_cons (pv 3) pa_nil))) (pa_cons (pv 4) pa_nil))) pe_int (nomark _))))))
            (pss_one (ps_expr (pe_bm PySem.F.plainAttrs_list PySem.F.slot_list_append PySem.F.type_list_append mt_append (pv 1) (pa_cons
              (pe_lst (pa_cons (pe_un un_neg (pv 0)) (pa_cons (pe_op op_add (pv 2) (pv 0)) (pa_cons (pe_op op_add (pv 4) (pv 0)) (pa_cons (pe_op op_add (pe_op op_sub (pe_op op_add (pv 2) (pv 4)) (pe_op op_mul pe_int (pv 3))) (pv 0)) pa_nil))))) pa_nil)))) pss_nil))))))
      (pss_one (ps_ret (pv 1))))), ?_⟩
    refine ⟨_, rfl, rfl, _, rfl, ?_⟩
    by_cases c0 : s = 0
    · subst c0
      refine iT rfl ⟨szl (by show 4 < 1000; omega), fun p np => ⟨szl (by show 1 < 1000; omega), fun l nl => ?_⟩⟩
      have s1 := same_upd np (o := .lst [.int 0, .int 0, .int 1, .int 1])
      have s2 := same_upd nl (o := .lst [.ref p])
      exact q l [p] _ (s1.trans s2) (s1.free nl) upd_same (.cons (SqL.of (s2 _ _ upd_same)) .nil) (fun a ha => by rw [List.mem_singleton.mp ha]; exact np)
    · refine iF (decide_eq_false (fun z => by injection z with z; omega)) ?_
      refine ⟨szl (by decide), fun f nf => ?_⟩
      have en : (2 * (s : Int) - 1).toNat = 2 * s - 1 := by omega
      refine ⟨_, rfl, _, _, rfl, rfl, .inl ⟨by decide, by decide⟩, _, _, rfl, ⟨by decide, by decide, by show -(2 ^ 62) ≤ 2 * (s : Int); omega, by show 2 * (s : Int) < 2 ^ 62; omega⟩, ?_⟩
      show ∃ W : Nat → Nat → L2.St → Hp → Prop, _
      rw [show (2 * (s : Int) - 1).toNat = 2 * s - 1 from en]
      refine for_range (lo := 1) (n := 2 * s - 1) (fun i σ H' => ∃ (refs : List Addr) (x y z : Option V), σ = [some (.int (s : Int)), some (.ref f), x, y, z] ∧ H' f = some (.lst (refs.map V.ref)) ∧ RowsAt K false H' refs (rOut s i) ∧ (∀ a ∈ refs, H a = none ∧ a ≠ f) ∧ Same H H')
        ⟨[], none, none, none, rfl, upd_same, .nil, fun a ha => absurd ha List.not_mem_nil, same_upd nf⟩ ?_ ?_
      · rintro i σ H1 hi ⟨refs, x, y, z, rfl, hf, hR, hn, sm⟩
        rw [show (1 : Int) + (i : Int) = ((1 + i : Nat) : Int) from by omega]
        have hi31 : i < 31 := by omega
        have ol := rOut_len s i (by omega)
        have a0 : 0 < 1 + i := by omega
        generalize ha : 1 + i = a at *
        have hdiv : ((a : Int) / 2 + 1) = ((a / 2 + 1 : Nat) : Int) := by omega
        refine ⟨_, rfl, _, _, rfl, rfl, ⟨by decide, by decide⟩, _, _, rfl, rfl, _, rfl, by show -(2 ^ 62) ≤ (a : Int) / 2 + 1; omega, by show (a : Int) / 2 + 1 < 2 ^ 62; omega, ?_⟩
        show ∃ W : Nat → Nat → L2.St → Hp → Prop, _
        rw [show ((a : Int) / 2 + 1).toNat = a / 2 + 1 from by omega]
        refine for_range (lo := 0) (n := a / 2 + 1) (fun h σ H' => ∃ (refs : List Addr) (y z : Option V), σ = [some (.int (s : Int)), some (.ref f), some (.int (a : Int)), y, z] ∧ H' f = some (.lst (refs.map V.ref)) ∧ RowsAt K false H' refs (rOut s i ++ rMid s a h) ∧ (∀ a ∈ refs, H a = none ∧ a ≠ f) ∧ Same H H')
          ⟨refs, y, z, rfl, hf, by rw [show rMid s a 0 = [] from rfl, List.append_nil]; exact hR, hn, sm⟩ ?_ ?_
        · rintro h σ H2 hh ⟨refs2, y2, z2, rfl, hf2, hR2, hn2, sm2⟩
          rw [show (0 : Int) + (h : Int) = (h : Int) from by omega]
          have ml := rMid_len s a h
          have hl2 := rows_len hR2
          rw [List.length_append] at hl2
          have big : ∀ u v : Nat, u ≤ 1000 → v ≤ 1000 → u * v ≤ 1000000 := fun u v h1 h2 => Nat.mul_le_mul h1 h2
          have b1 := big s s (by omega) (by omega)
          have b2 := big h h (by omega) (by omega)
          have es : ((s : Int) * (s : Int) + (h : Int) * (h : Int)) = ((s * s + h * h : Nat) : Int) := by rw [Int.natCast_add, Int.natCast_mul, Int.natCast_mul]
          have ec : ((s : Int) * (s : Int) + (h : Int) * (h : Int)) / (a : Int) = (((s * s + h * h) / a : Nat) : Int) := by rw [es, ← Int.natCast_ediv]
          have inb : ∀ u : Nat, u ≤ 1000 → -(2 ^ 64) < (u : Int) ∧ (u : Int) < 2 ^ 64 := fun u hu => by omega
          refine ⟨_, rfl, _, rfl, _, _, rfl, rfl, .inl (inb s (by omega)), _, rfl, _, rfl, _, _, rfl, rfl, .inl (inb h (by omega)), _, _, rfl, rfl, _, rfl, _, _, rfl, rfl, ⟨by omega, by omega⟩, ?_⟩
          have inc : ∀ u v : Nat, ((u : Int) * (u : Int) + (v : Int) * (v : Int)) / (a : Int) = (((u * u + v * v) / a : Nat) : Int) := fun u v => by rw [← Int.natCast_mul, ← Int.natCast_mul, ← Int.natCast_add, ← Int.natCast_ediv]
          have no : okR s a h ((s * s + h * h) / a) = false → ∀ σ', σ' = [some (.int (s : Int)), some (.ref f), some (.int (a : Int)), some (.int (h : Int)), some (.int (((s * s + h * h) / a : Nat) : Int))] →
              ∃ (refs : List Addr) (y z : Option V), σ' = [some (.int (s : Int)), some (.ref f), some (.int (a : Int)), y, z] ∧ H2 f = some (.lst (refs.map V.ref)) ∧ RowsAt K false H2 refs (rOut s i ++ rMid s a (h + 1)) ∧ (∀ a ∈ refs, H a = none ∧ a ≠ f) ∧ Same H H2 := by
            intro hk σ' e
            refine ⟨refs2, _, _, e, hf2, ?_, hn2, sm2⟩
            rw [rMid_succ, show rIn s a h = [] from if_neg (by rw [hk]; exact Bool.false_ne_true), List.append_nil]
            exact hR2
          refine ⟨_, rfl, _, rfl, _, _, rfl, rfl, .inl (inb a (by omega)), _, rfl, _, rfl, _, _, rfl, rfl, .inl (inb s (by omega)), _, rfl, _, rfl, _, _, rfl, rfl, .inl (inb h (by omega)), _, _, rfl, rfl, rfl, _, rfl, ?_⟩
          refine iB (fun t1 => ?_) (fun t1 => iF rfl (no ?_ _ rfl))
          rotate_left
          · have t1' : ¬ V.int ((a : Int) * (((s : Int) * (s : Int) + (h : Int) * (h : Int)) / (a : Int))) = V.int ((s : Int) * (s : Int) + (h : Int) * (h : Int)) := of_decide_eq_false t1
            rw [ec, es, ← Int.natCast_mul] at t1'
            unfold okR
            rw [decide_eq_false (fun z => t1' (by rw [z]))]; rfl
          have t1' : V.int ((a : Int) * (((s : Int) * (s : Int) + (h : Int) * (h : Int)) / (a : Int))) = V.int ((s : Int) * (s : Int) + (h : Int) * (h : Int)) := of_decide_eq_true t1
          rw [ec, es, ← Int.natCast_mul] at t1'
          have t1'' : a * ((s * s + h * h) / a) = s * s + h * h := by injection t1' with t1'; exact Int.ofNat.inj t1'
          refine ⟨_, rfl, _, rfl, _, _, rfl, rfl, _, rfl, ?_⟩
          refine iB (fun t2 => ?_) (fun t2 => iF rfl (no ?_ _ rfl))
          rotate_left
          · have t2' : ¬ (a : Int) ≤ ((s : Int) * (s : Int) + (h : Int) * (h : Int)) / (a : Int) := of_decide_eq_false t2
            rw [ec] at t2'
            unfold okR
            rw [decide_eq_true t1'', decide_eq_false (fun z => t2' (by omega))]; rfl
          have t2' : (a : Int) ≤ ((s : Int) * (s : Int) + (h : Int) * (h : Int)) / (a : Int) := of_decide_eq_true t2
          rw [ec] at t2'
          refine ⟨_, rfl, _, rfl, a, h, rfl, _, rfl, Nat.gcd a h, (s * s + h * h) / a, rfl, rfl, _, rfl, ?_⟩
          refine iB (fun t3 => ?_) (fun t3 => no ?_ _ rfl)
          rotate_left
          · have t3' : ¬ V.int ((Nat.gcd (Nat.gcd a h) ((s * s + h * h) / a) : Nat) : Int) = V.int 1 := of_decide_eq_false t3
            unfold okR
            rw [decide_eq_true t1'', decide_eq_true (show a ≤ (s * s + h * h) / a from by omega), decide_eq_false (fun z => t3' (by rw [z]; rfl))]; rfl
          have t3' : V.int ((Nat.gcd (Nat.gcd a h) ((s * s + h * h) / a) : Nat) : Int) = V.int 1 := of_decide_eq_true t3
          have t3'' : Nat.gcd (Nat.gcd a h) ((s * s + h * h) / a) = 1 := by injection t3' with t3'; exact Int.ofNat.inj t3'
          have yes : okR s a h ((s * s + h * h) / a) = true := by
            unfold okR
            rw [decide_eq_true t1'', decide_eq_true (show a ≤ (s * s + h * h) / a from by omega), decide_eq_true t3'']; rfl
          refine ⟨_, rfl, .inl ⟨rfl, _, SqL.of hf2⟩, _, rfl, _, rfl, _, rfl, _, rfl, _, _, rfl, rfl, _, rfl, _, rfl, _, _, rfl, rfl, _, rfl, _, rfl, _, _, rfl, rfl, _, rfl, _, _, rfl, rfl, .inl ⟨by decide, by decide⟩, _, _, rfl, rfl, _, rfl, _, _, rfl, rfl, szl (by show 4 < 1000; omega), fun p np => ?_⟩
          have fp : f ≠ p := ne_of_none hf2 np
          have np0 := sm2.free np
          refine ⟨f, _, _, rfl, rfl, by rw [upd_ne fp]; exact hf2, by rw [List.length_map]; exact sz (by omega), ?_⟩
          refine ⟨refs2 ++ [p], _, _, rfl, ?_, ?_, ?_, ?_⟩
          · rw [upd_same, List.map_append]; rfl
          · rw [rMid_succ, show rIn s a h = [rowOf s a h ((s * s + h * h) / a : Nat)] from if_pos yes, ← List.append_assoc]
            refine rows_keep (H := upd H2 p (.lst ((rowOf s a h ((s * s + h * h) / a : Nat)).map V.int))) (fun r hr o e => ?_) (rows_snoc (a := p) ?_ (rows_same (same_upd np) hR2))
            · rw [upd_ne ?_]
              · exact e
              · rcases List.mem_append.mp hr with hr | hr
                · exact (hn2 r hr).2
                · rw [List.mem_singleton.mp hr]; exact fp.symm
            · exact SqL.of upd_same
          · intro r hr
            rcases List.mem_append.mp hr with hr | hr
            · exact hn2 r hr
            · rw [List.mem_singleton.mp hr]; exact ⟨np0, fp.symm⟩
          · exact same_at (sm2.trans (same_upd np)) nf
        · rintro σ H2 ⟨refs2, y2, z2, rfl, hf2, hR2, hn2, sm2⟩
          refine ⟨refs2, _, _, _, rfl, hf2, ?_, hn2, sm2⟩
          rw [rOut_succ, ha]
          exact hR2
      · rintro σ H1 ⟨refs, x, y, z, rfl, hf, hR, hn, sm⟩
        refine ⟨_, rfl, q f refs H1 sm nf hf ?_ (fun a ha => (hn a ha).1)⟩
        rw [roots_eq c0]; exact hR
end
end BS
namespace PySem
namespace BX
open PySem.W PySem.Calls PyProof.Rows PySem.HandSPX
theorem one_size (v : List Value) (h : v.length ≤ 10) : v.length ≤ sizeLine := by rw [sizeLine_eq]; omega
theorem kept_but {K : Frag} {h h' : Heap} {x : Addr} (X : K.In h) (hx : K.lookup x = none) (k : ∀ b o, b ≠ x → h.get? b = some o → h'.get? b = some o) : K.In h' := fun a o e =>
  k a o (fun z => by rw [z, hx] at e; cases e) (X a o e)
/-- what the written part says of a class of errors at C with an __init__ at fI that says super().__init__(..): D the class's own cell's class (C itself), cc its cell -/
structure OwnX (prog : Program) (K : Frag) (mg : Str → Option Value) (C fI cc cda : Addr) : Prop where
  cls : ∃ nm q N bs bm sn sub ab col dd k0 k1 k2 k3 k5, K.lookup C = some (excClassObj nm q C N bs bm true sn sub ab col dd k0 k1 k2 k3 k5 "ValueError.__new__") ∧ refsVE bm = true
  sa : findIn K (.ref C) "__setattr__" = some (some (.builtin "object.__setattr__"))
  iC : findIn K (.ref C) "__init__" = some (some (.ref fI))
  tI : typeIn K (.ref fI) = some (.type "function")
  sup : ks_superIn K C C "__init__" = some (some (.builtin "ValueError.__init__"))
  sV : subIn K (.ref C) (.type "ValueError") = some true
  sC : mroIn K C (.ref C) = some true
  opq : nsIn K cStatics "thirdparty.any" = some none
  mgS : mg "super" = none
  cell : ∃ cl cld csl, K.lookup cc = some ⟨cl, cld, .cell (some (.ref C)), csl⟩
  code : ∃ ccl cdd vs ccs file tf, K.lookup cda = some ⟨ccl, cdd, .fields vs, ccs⟩ ∧ vs[2]? = some (.str file tf) ∧ ((prog.main.file : Str) == file) = true
  top : (prog.main.scope.names.lookup ("super" : Str)).isSome = false
section
variable {prog : Program} {w : World} {A : Around} {E : Value → Shared → Prop} {s : Shared} {K : Frag} {mg : Str → Option Value} {C fI cc cda : Addr}
/-- the bound wrapper called: the args are laid anew -/
theorem call_mw {nm q : Str} {N : Addr} {bs bm sub : List Value} {sn : List Str} {ab : Bool} {col : Option Bool} {dd : Option Addr} {k0 k1 k2 k3 k5 : Option Value} {h : Heap} {g : Array GenState} {d : Drawn} {t : Nat} {os : OsState}
    {u e t0 : Addr} {rest : List Value} {Q : Value → Shared → Prop}
    (hC : h.get? C = some (excClassObj nm q C N bs bm true sn sub ab col dd k0 k1 k2 k3 k5 "ValueError.__new__")) (he : h.get? e = some (excO C t0)) (hu : h.get? u = some (kxs_mw "ValueError.__init__" e)) (hrest : rest.length ≤ sizeLine)
    (hq : ∀ h' t1, (∀ b o, b ≠ e → h.get? b = some o → h'.get? b = some o) → h'.get? e = some (excO C t1) → h.objs.size ≤ h'.objs.size → Q .none ⟨h', g, d, t, os⟩) :
    wpAny (model prog w) A (call (.ref u) rest) Q E ⟨h, g, d, t, os⟩ := by
  refine wpAny_call (codeAny_of_tree ?_)
  show wpAny _ A.in1 (callAny (.ref u) ⟨rest, []⟩) _ _ _
  simp only [callAny]
  refine wpAny_bind (wpAny_load hu ?_)
  simp only [kxs_mw, show (Value.type "method-wrapper" == Value.type "method" || Value.type "method-wrapper" == Value.type "builtin_function_or_method" || Value.type "method-wrapper" == Value.type "method-wrapper") = true by decide, if_true]
  refine KFB.if_so (by decide) ?_
  refine wpAny_bind (check_bound_init PySem.F.excBase_ValueError.toExcCallFacts hC he rfl ?_)
  refine wpAny_bind (wpAny_pure (wpAny_pure ?_))
  refine ⟨plainId_quiet PySem.F.excBase_ValueError.init.plain _, codeAny_builtin PySem.F.excBase_ValueError.initEntry ?_⟩
  exact exc_init_tree (cls := .ref C) (t0 := t0) (dv := none) (c2 := .none) (c3 := .none) (b4 := .bool false) he hrest fun h' k e' t' => hq h' _ k e' (Nat.le_of_lt (Heap.lt_size t'))
/-- super().__init__('..') as a statement -/
theorem super_step {body : List Stmt} {qual msg : Str} {scope : Scope} {L x t0 : Addr} {a1 a2 a3 a4 a5 a6 : Pos} {kk : Nat} {fd : FuncData} {oc : Value} {od : Option Addr} {osl : Array (Option Value)} {ar : Arg} {m : Str → Option Value} {Q : Flow → Shared → Prop}
    (T : OwnX prog K mg C fI cc cda) (X : K.In s.heap) (hf : K.lookup fI = some ⟨oc, od, .func fd, osl⟩) (hp : (fd.params.posonlyargs ++ fd.params.args).head? = some ar)
    (hg : s.heap.Ns mainGlobals mg) (hb : ∃ mb, s.heap.Ns builtinsNs mb ∧ mb "super" = bootBuiltins "super") (hns : s.heap.Ns L m) (hv : m ar.arg = some (.ref x)) (hx : s.heap.get? x = some (excO C t0))
    (hks : scope.names.lookup ("super" : Str) = some .globalImplicit) (hkc : scope.names.lookup ("__class__" : Str) = some .free) (hka : scope.names.lookup ar.arg = some .local) (hk : scope.kind = .function)
    (hi : interactive (ksEnv qual scope L fI (.ref cda) cc) = false) {pl : Sem Bool}
    (he : eval (.Call (.Attribute (.Call (.Name "super" a1) [] [] a2) "__init__" a3) [.Constant (.str msg) kk a4] [] a5) (ksEnv qual scope L fI (.ref cda) cc) = (do
      let ov ← attributeBase (.Call (.Name "super" a1) [] [] a2) "__init__" (ksEnv qual scope L fI (.ref cda) cc) (eval (.Call (.Name "super" a1) [] [] a2) (ksEnv qual scope L fI (.ref cda) cc))
      standAt a3.atName
      let (f, first) ← holding [ov] (getMethod ov "__init__" pl)
      callWith a5 f first (backTo a5 (starEach [.Constant (.str msg) kk a4] (ksEnv qual scope L fI (.ref cda) cc))) []))
    (hs : swapsWith (.Call (.Attribute (.Call (.Name "super" a1) [] [] a2) "__init__" a3) [.Constant (.str msg) kk a4] [] a5) none a6.line (ksEnv qual scope L fI (.ref cda) cc) = pure false)
    (h : ∀ h' t1 tk, (∀ b o, b ≠ x → s.heap.get? b = some o → h'.get? b = some o) → h'.get? x = some (excO C t1) → s.heap.objs.size ≤ h'.objs.size → Q .next { s with heap := h', toks := tk }) :
    wpAt (model prog w) A (.func body (ksEnv qual scope L fI (.ref cda) cc)) (exec (.Expr (.Call (.Attribute (.Call (.Name "super" a1) [] [] a2) "__init__" a3) [.Constant (.str msg) kk a4] [] a5) a6) (ksEnv qual scope L fI (.ref cda) cc)) Q E s := by
  obtain ⟨ccl, cdd, vs, ccs, file, tf, hcode, hvs, hfile⟩ := T.code
  obtain ⟨cl, cld, csl, hcell⟩ := T.cell
  obtain ⟨nm, q, N, bs, bm, sn, sub, ab, col, dd, k0, k1, k2, k3, k5, hC, hbm⟩ := T.cls
  have hclsD : clsIn K C = some { name := nm, bases := bs, mro := .ref C :: bm, ns := N, qualname := q, hasDict := true, slotNames := sn, subclasses := sub, abstract := ab, collection := col, hasDel := false } := by unfold clsIn; rw [hC] <;> rfl
  have hD1 := X _ _ hC
  obtain ⟨mb, hb1, hb2⟩ := hb
  obtain ⟨hh, g, d, t, os⟩ := s
  have I : InstAt hh x (excO C t0) C none := ⟨hx, rfl, rfl, trivial⟩
  refine ks_wpAt_Expr_any (ks_wpAt_MethodCall ?_ he) hi hs
  refine ks_wpAt_super_base (env := ksEnv qual scope L fI (.ref cda) cc) hks hkc (by decide) rfl (X _ _ hf) rfl hp rfl (X _ _ hcode) rfl hvs hfile T.top ?_
  refine ks_loadName_global hk hks (loadGlobal_builtin (env := ksEnv qual scope L fI (.ref cda) cc) hg T.mgS hb1 (hb2.trans (by first | boot_by_name | rfl | kernel_rfl)) ⟨rfl, ?_⟩)
  refine wpAny_loadName_free hk hkc rfl ⟨_, X _ _ hcell, rfl⟩ ?_
  refine wpAny_loadName_local hk hka hns hv ?_
  refine ks_wpAny_isType_cls hD1 rfl ⟨rfl, ?_⟩
  refine ks_wpAny_call_super hD1 rfl hx rfl (fun c e => by cases e) (looks_mroIn X T.sC) (fun h1 e1 kp1 => ?_)
  have X1 : K.In h1 := X.keeps kp1
  have I1 : InstAt h1 x (excO C t0) C none := ⟨kp1 _ _ hx, rfl, rfl, trivial⟩
  have hm := T.sup
  unfold ks_superIn at hm
  rw [hclsD] at hm
  refine kxs_getMethod kxs_ValueError e1 (looks_opaque X1 T.opq) (l₀ := .ref C :: bm) ?_ rfl X1 hm (I1.type.andThen (looks_subIn X1 T.sV)) (ks_ne X1 I1 hclsD) (by decide) ?_
  · exact fun A Q E s k q => wpAny_bind ((looks_clsIn X1 hclsD) A _ E s k (wpAny_pure q))
  have ku : ∀ b o, h1.get? b = some o → (h1.push (kxs_mw "ValueError.__init__" x)).get? b = some o := fun b o e => Heap.get?_push_of_some _ e
  have hu : (h1.push (kxs_mw "ValueError.__init__" x)).get? h1.objs.size = some (kxs_mw "ValueError.__init__" x) := Heap.get?_push_at rfl rfl
  refine kxs_callWith (i := "ValueError.__init__") (x := x) rfl ?_
  refine evalArgs_plain ?_
  refine spliced_cons (Constant_str (k := kk) (pos := a4) (spliced_nil ⟨hu, ?_⟩))
  refine call_mw (X1.keeps ku _ _ hC) (ku _ _ (kp1 _ _ hx)) hu (by show 1 ≤ sizeLine; rw [sizeLine_eq]; decide) fun h' t1 k' e' z' => ?_
  exact h h' t1 _ (fun b o hb e => k' b o hb (ku _ _ (kp1 b o e))) e' (Nat.le_trans (Nat.le_of_lt (Heap.lt_size e1)) (Nat.le_trans (Nat.le_of_lt (Heap.lt_size hu)) z'))
/-- what __init__ leaves of a fresh exception at x: its own dict holds the names of m -/
structure InitEnd (h h' : Heap) (x C : Addr) (m : Str → Option Value) : Prop where
  keep : ∀ b o, b ≠ x → h.get? b = some o → h'.get? b = some o
  obj : ∃ t1 dx, h'.get? x = some { cls := .ref C, dict := some dx, data := .fields #[.ref t1, .none, .none, .none, .bool false, .none] } ∧ h.objs.size ≤ dx ∧ dx ≠ x ∧ h'.Ns1 dx m
/-- a second store -/
theorem osa_more {hp : Heap} {g : Array GenState} {d : Drawn} {t : Nat} {os : OsState} {R : Result → Shared → Prop} {name : Str} {tk : Tok} {v : Value} {x C dx : Addr} {fv : Array Value} {cd : ClassData} {m0 : Str → Option Value} {nl : List Str}
    (X : K.In hp) (hx : hp.get? x = some { cls := .ref C, dict := some dx, data := .fields fv }) (hns : hp.Ns1 dx m0) (hw : Within m0 nl) (hz : nl.length ≤ 1000) (hcd : clsIn K C = some cd) (hm : refsVE cd.mro = true) (hh : cd.hasDict = true)
    (ha : findIn K (.ref C) name = some none)
    (hq : ∀ h' tk', (∀ b o, b ≠ dx → hp.get? b = some o → h'.get? b = some o) → h'.Ns1 dx (fun y => if y = name then some v else m0 y) → R (.ok (.ret .none)) ⟨h', g, d, tk', os⟩) :
    codeAny (model prog w) A (.call (.builtin "object.__setattr__") ⟨[.ref x, .str name tk, v], []⟩) R ⟨hp, g, d, t, os⟩ := by
  obtain ⟨oD, esD, epD, hoD, hdD, _⟩ := hns.count hw
  have I : InstAt hp x { cls := .ref C, dict := some dx, data := .fields fv } C (some oD) := ⟨hx, rfl, rfl, hoD⟩
  have SF := PySem.F.store_object
  have ne := refsVE_ne hm
  have hob : cd.mro.contains (.type "object") = true := (refsVE_contains "object" _ hm).trans (by decide +kernel)
  have sub : Looks (model prog w) hp (isInstance (.ref x) (.type "object")) true := I.type.andThen (looks_mroIn X (by unfold mroIn; rw [hcd, Option.bind_some, if_neg (by rw [ne]; decide), hob]))
  refine codeAny_call_builtin SF.slot.plain SF.entry (@check_slot (model prog w) _ _ ⟨hp, g, d, t, os⟩ "object.__setattr__" "object" "__setattr__" (.ref x) [.str name tk, v] [] _ SF.kind SF.split sub (SF.args (.ref x) (.str name tk) v) ?_)
  have hmr : Looks (model prog w) hp (mroOf (.ref C)) cd.mro := (looks_clsIn X hcd).andThen .now
  have L3 : Looks (model prog w) hp (Builtin.ObjectAttr.storeTaker? none) none := .now
  have hcls : Looks (model prog w) hp (classData C) cd := looks_clsIn X hcd
  rw [osa_eq, refuse_eq]
  refine wpAny_bind (wpAny_bind (I.type.at (wpAny_bind (hmr.at ?_))))
  rw [refsVE_pass _ _ hm]
  refine wpAny_pure (wpAny_bind (I.type.at (wpAny_bind ((looks_findIn X ha).at (wpAny_bind (L3.at ?_))))))
  show wpAny _ _ (Builtin.ObjectAttr.storeInOwnDict (.ref x) (.ref C) (.str name tk) name v false) _ _ _
  obtain ⟨nm, bs, mro, ns, qn, hd, sn, sb, ab, col, del⟩ := cd
  dsimp only at hh
  subst hh
  unfold Builtin.ObjectAttr.storeInOwnDict Builtin.ObjectAttr.ownDictForStores
  repeat (first | with_reducible refine ESX.store_in_old hns hw hz ?_ | with_reducible refine wpAny_loadPart_at hx ?_ | with_reducible refine hcls.at ?_ | wp_step)
  intro h' tk' hn' hs
  exact hq h' tk' (fun b o hb ho => (hs.2 b hb).trans ho) hn'
end
end BX
end PySem
namespace PySem
namespace BX
open PySem.W PySem.Calls PyProof.Rows PySem.HandSPX BS
section
variable {prog : Program} {w : World} {A : Around} {E : Value → Shared → Prop} {R : Result → Shared → Prop} {s : Shared} {K : Frag} {mg : Str → Option Value} {C fI cc cda : Addr}
theorem ldK {M : Model} {A : Around} {E : Value → Shared → Prop} {s : Shared} {name : Str} {scope : Scope} {L a : Addr} {cd : Value} {cc : Addr} {m : Str → Option Value} {x : Str} {pos : Pos} {v : Value} {Q : Value → Shared → Prop} (hn : s.heap.Ns L m) (hv : m x = some v) (h : Q v s)
    (hk : scope.kind = .function := by rfl) (hl : (ksEnv name scope L a cd cc).kindOf x = some .local := by rfl) (hd : (x == ("__debug__" : Str)) = false := by decide) : wpAny M A (eval (.Name x pos) (ksEnv name scope L a cd cc)) Q E s := wpAny_Name (wpAny_loadName_local hk hl hn hv h) hd
theorem ns_but {h h' : Heap} {L x : Addr} {m : Str → Option Value} (hn : h.Ns L m) (n : L ≠ x) (k : ∀ b o, b ≠ x → h.get? b = some o → h'.get? b = some o) : h'.Ns L m := by
  obtain ⟨oL, es, ep, hL, r⟩ := hn
  exact ⟨oL, es, ep, k _ _ n hL, r⟩
theorem init_BadFour (T : OwnX prog K mg C fI cc cda) {x t0 : Addr} {v : Value} {oc : Value} {od : Option Addr} {kV doc pm ct : Value} {an : Option Addr} {osl : Array (Option Value)}
    (ho : K.lookup fI = some ⟨oc, od, .func (ksFn "__init__" "BadFour.__init__" (L2.defArgs (L2.inClass (top 5) 0)) (L2.defBody (L2.inClass (top 5) 0)) (L2.defScope (L2.inClass (top 5) 0)) .none kV doc pm an (.ref cda) ct cc), osl⟩) (hcd : codeIn K (.ref cda) "BadFour.__init__" = true)
    (nB : findIn K (.ref C) "part" = some none)
    (X : K.In s.heap) (hlim : s.heap.NoLimit) (hg : s.heap.Ns mainGlobals mg) (hb : ∃ mb, s.heap.Ns builtinsNs mb ∧ mb "super" = bootBuiltins "super") (hx : s.heap.get? x = some (excO C t0)) (hnx : K.lookup x = none) (hroom : A.depth < recursionLimit)
    (hq : ∀ h' tk, InitEnd s.heap h' x C (fun y => if y = "part" then some v else none) → R (.ok (.ret .none)) { s with heap := h', toks := tk }) :
    codeAny (model prog w) A (.call (.ref fI) ⟨[.ref x, v], []⟩) R s := by
  obtain ⟨nm, q, N, bs, bm, sn, sub, ab, col, dd, k0, k1, k2, k3, k5, hC, hbm⟩ := T.cls
  have hcl : clsIn K C = some { name := nm, bases := bs, mro := .ref C :: bm, ns := N, qualname := q, hasDict := true, slotNames := sn, subclasses := sub, abstract := ab, collection := col, hasDel := false } := by unfold clsIn; rw [hC] <;> rfl
  refine ks_codeAny_call_defAt (fd := ksFn "__init__" "BadFour.__init__" (L2.defArgs (L2.inClass (top 5) 0)) (L2.defBody (L2.inClass (top 5) 0)) (L2.defScope (L2.inClass (top 5) 0)) .none kV doc pm an (.ref cda) ct cc) (body := L2.defBody (L2.inClass (top 5) 0)) (binds := [("self", .ref x), ("part", v)]) hroom (X _ _ ho) rfl hlim (codeRec_of X hcd) rfl (BindsTo.of_eq (by first | rfl | with_unfolding_all rfl)) (show ∀ x ∈ (L2.defScope (L2.inClass (top 5) 0)).names, x.2 ≠ .cell from by decide +kernel)
    (fun y hy => by rcases List.mem_cons.mp hy with rfl | hy; exact (by decide +kernel : (L2.defScope (L2.inClass (top 5) 0)).names.lookup ("self" : Str) = some .local); rcases List.mem_cons.mp hy with rfl | hy; exact (by decide +kernel : (L2.defScope (L2.inClass (top 5) 0)).names.lookup ("part" : Str) = some .local); exact absurd hy List.not_mem_nil) (fun h₁ hns k => ?_) rfl rfl rfl
  have hxL : s.heap.objs.size ≠ x := Nat.ne_of_gt (Heap.lt_size hx)
  have X₁ : K.In h₁ := X.keeps k
  have hx₁ := k _ _ hx
  have hg₁ : h₁.Ns mainGlobals mg := hg.keeps k
  obtain ⟨mb, hb1, hb2⟩ := hb
  refine ks_wpAt_execs_cons (super_step (s := { s with heap := h₁, toks := s.toks + 2 }) T X₁ ho rfl hg₁ ⟨mb, hb1.keeps k, hb2⟩ hns rfl hx₁ (show (L2.defScope (L2.inClass (top 5) 0)).names.lookup ("super" : Str) = some .globalImplicit from by decide +kernel) (show (L2.defScope (L2.inClass (top 5) 0)).names.lookup ("__class__" : Str) = some .free from by decide +kernel) (show (L2.defScope (L2.inClass (top 5) 0)).names.lookup ("self" : Str) = some .local from by decide +kernel) rfl rfl rfl rfl fun h₂ t1 tk2 k2 hx₂ z2 => ?_)
  have X₂ : K.In h₂ := kept_but X₁ hnx k2
  have hns₂ := ns_but hns hxL k2
  -- self.part = part
  refine wpAt_of_wpAny (wpAny_execs_cons (plainObj_wpAny_Assign_Attribute ?_))
  refine ldK (v := v) hns₂ rfl (ldK (v := .ref x) hns₂ rfl ?_)
  refine set_plain X₂ (ox := excO C t1) (od := none) ⟨hx₂, rfl, rfl, trivial⟩ T.sa ?_
  refine exc_osa X₂ hx₂ hcl (show refsVE (.ref C :: bm) = true from hbm) rfl nB (fun h₃ tk₃ dx k₃ dn dne hx₃ hn₃ => ?_)
  show wpAny _ _ (execs _ _) _ _ _
  have z : s.heap.objs.size < h₁.objs.size := hns.lt
  exact wpAny_execs_nil (hq h₃ tk₃ ⟨fun b o hb e => k₃ b o hb (k2 b o hb (k b o e)), t1, dx, hx₃, Nat.le_trans (Nat.le_of_lt (Nat.lt_of_lt_of_le z z2)) dn, dne, hn₃⟩)
theorem init_TooMany (T : OwnX prog K mg C fI cc cda) {x t0 : Addr} {v v2 : Value} {oc : Value} {od : Option Addr} {kV doc pm ct : Value} {an : Option Addr} {osl : Array (Option Value)}
    (ho : K.lookup fI = some ⟨oc, od, .func (ksFn "__init__" "TooMany.__init__" (L2.defArgs (L2.inClass (top 8) 0)) (L2.defBody (L2.inClass (top 8) 0)) (L2.defScope (L2.inClass (top 8) 0)) .none kV doc pm an (.ref cda) ct cc), osl⟩) (hcd : codeIn K (.ref cda) "TooMany.__init__" = true)
    (nB : findIn K (.ref C) "what" = some none) (nM : findIn K (.ref C) "most" = some none)
    (X : K.In s.heap) (hlim : s.heap.NoLimit) (hg : s.heap.Ns mainGlobals mg) (hb : ∃ mb, s.heap.Ns builtinsNs mb ∧ mb "super" = bootBuiltins "super") (hx : s.heap.get? x = some (excO C t0)) (hnx : K.lookup x = none) (hroom : A.depth < recursionLimit)
    (hq : ∀ h' tk, InitEnd s.heap h' x C (fun y => if y = "most" then some v2 else if y = "what" then some v else none) → R (.ok (.ret .none)) { s with heap := h', toks := tk }) :
    codeAny (model prog w) A (.call (.ref fI) ⟨[.ref x, v, v2], []⟩) R s := by
  obtain ⟨nm, q, N, bs, bm, sn, sub, ab, col, dd, k0, k1, k2, k3, k5, hC, hbm⟩ := T.cls
  have hcl : clsIn K C = some { name := nm, bases := bs, mro := .ref C :: bm, ns := N, qualname := q, hasDict := true, slotNames := sn, subclasses := sub, abstract := ab, collection := col, hasDel := false } := by unfold clsIn; rw [hC] <;> rfl
  refine ks_codeAny_call_defAt (fd := ksFn "__init__" "TooMany.__init__" (L2.defArgs (L2.inClass (top 8) 0)) (L2.defBody (L2.inClass (top 8) 0)) (L2.defScope (L2.inClass (top 8) 0)) .none kV doc pm an (.ref cda) ct cc) (body := L2.defBody (L2.inClass (top 8) 0)) (binds := [("self", .ref x), ("what", v), ("most", v2)]) hroom (X _ _ ho) rfl hlim (codeRec_of X hcd) rfl (BindsTo.of_eq (by first | rfl | with_unfolding_all rfl)) (show ∀ x ∈ (L2.defScope (L2.inClass (top 8) 0)).names, x.2 ≠ .cell from by decide +kernel)
    (fun y hy => by rcases List.mem_cons.mp hy with rfl | hy; exact (by decide +kernel : (L2.defScope (L2.inClass (top 8) 0)).names.lookup ("self" : Str) = some .local); rcases List.mem_cons.mp hy with rfl | hy; exact (by decide +kernel : (L2.defScope (L2.inClass (top 8) 0)).names.lookup ("what" : Str) = some .local); rcases List.mem_cons.mp hy with rfl | hy; exact (by decide +kernel : (L2.defScope (L2.inClass (top 8) 0)).names.lookup ("most" : Str) = some .local); exact absurd hy List.not_mem_nil) (fun h₁ hns k => ?_) rfl rfl rfl
  have hxL : s.heap.objs.size ≠ x := Nat.ne_of_gt (Heap.lt_size hx)
  have X₁ : K.In h₁ := X.keeps k
  have hx₁ := k _ _ hx
  have hg₁ : h₁.Ns mainGlobals mg := hg.keeps k
  obtain ⟨mb, hb1, hb2⟩ := hb
  refine ks_wpAt_execs_cons (super_step (s := { s with heap := h₁, toks := s.toks + 3 }) T X₁ ho rfl hg₁ ⟨mb, hb1.keeps k, hb2⟩ hns rfl hx₁ (show (L2.defScope (L2.inClass (top 8) 0)).names.lookup ("super" : Str) = some .globalImplicit from by decide +kernel) (show (L2.defScope (L2.inClass (top 8) 0)).names.lookup ("__class__" : Str) = some .free from by decide +kernel) (show (L2.defScope (L2.inClass (top 8) 0)).names.lookup ("self" : Str) = some .local from by decide +kernel) rfl rfl rfl rfl fun h₂ t1 tk2 k2 hx₂ z2 => ?_)
  have X₂ : K.In h₂ := kept_but X₁ hnx k2
  have hns₂ := ns_but hns hxL k2
  -- self.part = part
  refine wpAt_of_wpAny (wpAny_execs_cons (plainObj_wpAny_Assign_Attribute ?_))
  refine ldK (v := v) hns₂ rfl (ldK (v := .ref x) hns₂ rfl ?_)
  refine set_plain X₂ (ox := excO C t1) (od := none) ⟨hx₂, rfl, rfl, trivial⟩ T.sa ?_
  refine exc_osa X₂ hx₂ hcl (show refsVE (.ref C :: bm) = true from hbm) rfl nB (fun h₃ tk₃ dx k₃ dn dne hx₃ hn₃ => ?_)
  have z : s.heap.objs.size < h₁.objs.size := hns.lt
  have X₃ : K.In h₃ := kept_but X₂ hnx k₃
  have hns₃ := ns_but hns₂ hxL k₃
  have hw : Within (fun y => if y = ("what" : Str) then some v else none) ["what"] := Within.cons "what" v Within.nil
  obtain ⟨oD, esD, epD, hoD, hdD, _⟩ := hn₃.count hw
  show wpAny _ _ (execs _ _) _ _ _
  -- self.most = most
  refine wpAny_execs_cons (plainObj_wpAny_Assign_Attribute ?_)
  refine ldK (v := v2) hns₃ rfl (ldK (v := .ref x) hns₃ rfl ?_)
  refine set_plain X₃ (ox := { cls := .ref C, dict := some dx, data := .fields #[.ref t1, .none, .none, .none, .bool false, .none] }) (od := some oD) ⟨hx₃, rfl, rfl, hoD⟩ T.sa ?_
  refine osa_more X₃ hx₃ hn₃ hw (by decide) hcl (show refsVE (.ref C :: bm) = true from hbm) rfl nM (fun h₄ tk₄ k₄ hn₄ => ?_)
  show wpAny _ _ (execs _ _) _ _ _
  have sd : s.heap.objs.size ≤ dx := Nat.le_trans (Nat.le_of_lt (Nat.lt_of_lt_of_le z z2)) dn
  exact wpAny_execs_nil (hq h₄ tk₄ ⟨fun b o hb e => k₄ b o (Nat.ne_of_lt (Nat.lt_of_lt_of_le (Heap.lt_size e) sd)) (k₃ b o hb (k2 b o hb (k b o e))), t1, dx, k₄ _ _ (Ne.symm dne) hx₃, sd, dne, hn₄⟩)
theorem init_BadNumber (T : OwnX prog K mg C fI cc cda) {x t0 : Addr} {v : Value} {oc : Value} {od : Option Addr} {kV doc pm ct : Value} {an : Option Addr} {osl : Array (Option Value)}
    (ho : K.lookup fI = some ⟨oc, od, .func (ksFn "__init__" "BadNumber.__init__" (L2.defArgs (L2.inClass (top 4) 0)) (L2.defBody (L2.inClass (top 4) 0)) (L2.defScope (L2.inClass (top 4) 0)) .none kV doc pm an (.ref cda) ct cc), osl⟩) (hcd : codeIn K (.ref cda) "BadNumber.__init__" = true)
    (nB : findIn K (.ref C) "part" = some none)
    (X : K.In s.heap) (hlim : s.heap.NoLimit) (hg : s.heap.Ns mainGlobals mg) (hb : ∃ mb, s.heap.Ns builtinsNs mb ∧ mb "super" = bootBuiltins "super") (hx : s.heap.get? x = some (excO C t0)) (hnx : K.lookup x = none) (hroom : A.depth < recursionLimit)
    (hq : ∀ h' tk, InitEnd s.heap h' x C (fun y => if y = "part" then some v else none) → R (.ok (.ret .none)) { s with heap := h', toks := tk }) :
    codeAny (model prog w) A (.call (.ref fI) ⟨[.ref x, v], []⟩) R s := by
  obtain ⟨nm, q, N, bs, bm, sn, sub, ab, col, dd, k0, k1, k2, k3, k5, hC, hbm⟩ := T.cls
  have hcl : clsIn K C = some { name := nm, bases := bs, mro := .ref C :: bm, ns := N, qualname := q, hasDict := true, slotNames := sn, subclasses := sub, abstract := ab, collection := col, hasDel := false } := by unfold clsIn; rw [hC] <;> rfl
  refine ks_codeAny_call_defAt (fd := ksFn "__init__" "BadNumber.__init__" (L2.defArgs (L2.inClass (top 4) 0)) (L2.defBody (L2.inClass (top 4) 0)) (L2.defScope (L2.inClass (top 4) 0)) .none kV doc pm an (.ref cda) ct cc) (body := L2.defBody (L2.inClass (top 4) 0)) (binds := [("self", .ref x), ("part", v)]) hroom (X _ _ ho) rfl hlim (codeRec_of X hcd) rfl (BindsTo.of_eq (by first | rfl | with_unfolding_all rfl)) (show ∀ x ∈ (L2.defScope (L2.inClass (top 4) 0)).names, x.2 ≠ .cell from by decide +kernel)
    (fun y hy => by rcases List.mem_cons.mp hy with rfl | hy; exact (by decide +kernel : (L2.defScope (L2.inClass (top 4) 0)).names.lookup ("self" : Str) = some .local); rcases List.mem_cons.mp hy with rfl | hy; exact (by decide +kernel : (L2.defScope (L2.inClass (top 4) 0)).names.lookup ("part" : Str) = some .local); exact absurd hy List.not_mem_nil) (fun h₁ hns k => ?_) rfl rfl rfl
  have hxL : s.heap.objs.size ≠ x := Nat.ne_of_gt (Heap.lt_size hx)
  have X₁ : K.In h₁ := X.keeps k
  have hx₁ := k _ _ hx
  have hg₁ : h₁.Ns mainGlobals mg := hg.keeps k
  obtain ⟨mb, hb1, hb2⟩ := hb
  refine ks_wpAt_execs_cons (super_step (s := { s with heap := h₁, toks := s.toks + 2 }) T X₁ ho rfl hg₁ ⟨mb, hb1.keeps k, hb2⟩ hns rfl hx₁ (show (L2.defScope (L2.inClass (top 4) 0)).names.lookup ("super" : Str) = some .globalImplicit from by decide +kernel) (show (L2.defScope (L2.inClass (top 4) 0)).names.lookup ("__class__" : Str) = some .free from by decide +kernel) (show (L2.defScope (L2.inClass (top 4) 0)).names.lookup ("self" : Str) = some .local from by decide +kernel) rfl rfl rfl rfl fun h₂ t1 tk2 k2 hx₂ z2 => ?_)
  have X₂ : K.In h₂ := kept_but X₁ hnx k2
  have hns₂ := ns_but hns hxL k2
  -- self.part = part
  refine wpAt_of_wpAny (wpAny_execs_cons (plainObj_wpAny_Assign_Attribute ?_))
  refine ldK (v := v) hns₂ rfl (ldK (v := .ref x) hns₂ rfl ?_)
  refine set_plain X₂ (ox := excO C t1) (od := none) ⟨hx₂, rfl, rfl, trivial⟩ T.sa ?_
  refine exc_osa X₂ hx₂ hcl (show refsVE (.ref C :: bm) = true from hbm) rfl nB (fun h₃ tk₃ dx k₃ dn dne hx₃ hn₃ => ?_)
  show wpAny _ _ (execs _ _) _ _ _
  have z : s.heap.objs.size < h₁.objs.size := hns.lt
  exact wpAny_execs_nil (hq h₃ tk₃ ⟨fun b o hb e => k₃ b o hb (k2 b o hb (k b o e)), t1, dx, hx₃, Nat.le_trans (Nat.le_of_lt (Nat.lt_of_lt_of_le z z2)) dn, dne, hn₃⟩)
end
end BX
end PySem
namespace PySem
namespace BX
open PySem.W PySem.Calls PyProof.Rows PySem.HandSPX BS
/-- a made error -/
structure OwnMade (h h' : Heap) (e C d : Addr) (m : Str → Option Value) : Prop where
  keep : ∀ b o, h.get? b = some o → h'.get? b = some o
  new : h.objs.size ≤ e
  obj : ∃ oe vs, h'.get? e = some oe ∧ oe.cls = .ref C ∧ oe.dict = some d ∧ oe.data = .fields vs ∧ vs[1]? = some .none
  dbig : h.objs.size ≤ d
  dne : d ≠ e
  ns : h'.Ns1 d m
/-- what __init__ does with these arguments -/
def InitOk (prog : Program) (w : World) (K : Frag) (mg : Str → Option Value) (C fI : Addr) (rest : List Value) (m : Str → Option Value) : Prop :=
  ∀ (A : Around) (R : Result → Shared → Prop) (s : Shared) (x t0 : Addr), K.In s.heap → s.heap.NoLimit → s.heap.Ns mainGlobals mg → (∃ mb, s.heap.Ns builtinsNs mb ∧ mb "super" = bootBuiltins "super") → s.heap.get? x = some (excO C t0) → K.lookup x = none → A.depth < recursionLimit →
    (∀ h' tk, InitEnd s.heap h' x C m → R (.ok (.ret .none)) { s with heap := h', toks := tk }) → codeAny (model prog w) A (.call (.ref fI) ⟨.ref x :: rest, []⟩) R s
section
variable {prog : Program} {w : World} {A : Around} {E : Value → Shared → Prop} {R : Result → Shared → Prop} {s : Shared} {K : Frag} {mg : Str → Option Value} {C fI cc cda : Addr}
theorem own_made (T : OwnX prog K mg C fI cc cda) {rest : List Value} {m : Str → Option Value} (IO : InitOk prog w K mg C fI rest m) (hz : rest.length ≤ 10) (X : K.In s.heap) (hlim : s.heap.NoLimit) (hg : s.heap.Ns mainGlobals mg) (hb : ∃ mb, s.heap.Ns builtinsNs mb ∧ mb "super" = bootBuiltins "super")
    (hroom : A.depth + 1 < recursionLimit) (hq : ∀ h' tk e d, OwnMade s.heap h' e C d m → R (.ok (.ret (.ref e))) { s with heap := h', toks := tk }) :
    codeAny (model prog w) A (.call (.ref C) ⟨rest, []⟩) R s := by
  obtain ⟨nm, q, N, bs, bm, sn, sub, ab, col, dd, k0, k1, k2, k3, k5, hC, hbm⟩ := T.cls
  obtain ⟨hp, g, dr, tk, os⟩ := s
  have k : ∀ b o, hp.get? b = some o → ((hp.push (kdv_tup rest)).push (excO C hp.objs.size)).get? b = some o := fun b o e => Heap.get?_push_of_some _ (Heap.get?_push_of_some _ e)
  have hget : ((hp.push (kdv_tup rest)).push (excO C hp.objs.size)).get? (hp.objs.size + 1) = some (excO C hp.objs.size) := by heap_get
  have hnx : K.lookup (hp.objs.size + 1) = none := by
    cases e : K.lookup (hp.objs.size + 1) with
    | none => rfl
    | some o =>
      have z : hp.get? (hp.objs.size + 1) = some o := X _ _ e
      exact absurd (Nat.lt_of_succ_lt (Heap.lt_size z)) (Nat.lt_irrefl _)
  obtain ⟨mb, hb1, hb2⟩ := hb
  refine call_own PySem.F.excBase_ValueError (fun X => refsVE_contains X bm hbm) (X _ _ hC) (looks_findIn X T.iC) (fun self => bind_fn X self T.tI) (one_size rest hz) ?_
  refine IO _ _ ⟨(hp.push (kdv_tup rest)).push (excO C hp.objs.size), g, dr, tk, os⟩ _ _ (X.keeps k) (hlim.keeps k) (hg.keeps k) ⟨mb, hb1.keeps k, hb2⟩ hget hnx ?_ fun h' tk' ⟨k', t1, dx, hx, dn, dne, hns⟩ => ?_
  · show A.depth + 1 < recursionLimit
    exact hroom
  · have old : ∀ b o, hp.get? b = some o → h'.get? b = some o := fun b o e => k' b o (Nat.ne_of_lt (Nat.lt_succ_of_lt (Heap.lt_size e))) (k b o e)
    have z : hp.objs.size + 1 + 1 ≤ dx := by
      first
        | (simpa only [Heap.size_push] using dn)
        | exact dn
        | (have q := dn; rw [Heap.size_push, Heap.size_push] at q; exact q)
    exact ⟨rfl, hq h' tk' (hp.objs.size + 1) dx ⟨old, Nat.le_succ _, ⟨_, _, hx, rfl, rfl, rfl, rfl⟩, Nat.le_trans (Nat.le_trans (Nat.le_succ _) (Nat.le_succ _)) z, dne, hns⟩⟩
end
end BX
end PySem
namespace BS
open PySem PySem.Spec PyProof.Rows L2
/-- all that a raise of such a class asks: its name nm, its fields' names -/
structure ErrTxt (prog : Program) (w : World) (K : PySem.W.Frag) (mg : Str → Option Value) (nm : Str) (names : List Str) (C : Addr) : Prop where
  gC : mg nm = some (.ref C)
  own : ∃ fI cc cda, PySem.BX.OwnX prog K mg C fI cc cda ∧ ∀ vs us, Vals vs us → vs.length = names.length → ∃ m, PySem.BX.InitOk prog w K mg C fI us m ∧ ∀ f, RelO (List.lookup f (names.zip vs)) (m f)
  kC : PySem.W.keepIn K (.ref C) = true
  exC : PySem.W.subIn K (.ref C) (.type "BaseException") = some true
  tyC : PySem.W.typeIn K (.ref C) = some (.type "type")
  few : names.length ≤ 10
section
variable {X : Cx} {C : Addr} {nm : Str} {names : List Str}
def tMkErr (C : Addr) (names : List Str) (ta : TA) : L2.St → Hp → XK → Prop := fun σ H Q => ta σ H fun vs H1 => vs.length = names.length ∧ ∀ d, H1 d = none → Q (.ref C) (some d) (upd H1 d (.xd (names.zip vs)))
theorem pmk_err {a : Expr} {as : List Expr} {ta : TA} {p pos : Pos} {k : Nat} (T : ErrTxt X.prog X.w X.K X.mg nm names C) (hr : Room k X.A) (ha : PA X (a :: as) ta) (hg : Gl X nm) (hdb : (nm == ("__debug__" : Str)) = false := by decide)
    (he : starEach (a :: as) X.env = (false, eval a X.env) :: starEach as X.env := by rfl) (hpl : (backTo pos (starEach as X.env)).any (·.1) = false := by rfl) :
    PMk X (.Call (.Name nm p) (a :: as) [] pos) (tMkErr C names ta) := by
  intro pins s σ H Q I h
  refine wpAny_Call_Name_kw (ld_glob I hg T.gC ?_ hdb)
  refine PySem.W.callWith_K (h₀ := X.base) I.ok.mod.kin T.kC (thn (ha.run pos pins s σ H _ I h) fun us s1 hh => ?_) he hpl
  obtain ⟨vs, H1, I1, rv, hl, q1⟩ := hh
  obtain ⟨fI, cc, cda, OX, IO⟩ := T.own
  obtain ⟨m, IO, rel⟩ := IO vs us rv hl
  refine ⟨I1.kIn, ?_⟩
  show wpAny _ _ (call (.ref C) us) _ _ _
  have hlim := I1.nolimit
  obtain ⟨mb, hb1, hb2⟩ := I1.mod.blt
  have hG : s1.heap.Ns mainGlobals X.mg := I1.mod.glob.keeps I1.bk
  have hB : s1.heap.Ns builtinsNs mb := hb1.keeps I1.bk
  obtain ⟨hp, g, dr, tk, os⟩ := s1
  refine wpAny_call (PySem.BX.own_made OX IO (by rw [← rv.length, hl]; exact T.few) I1.kIn hlim hG ⟨mb, hB, hb2 _ (by decide)⟩ (by have := hr.dp; omega) fun h' tk' e d M => ?_)
  show MkP X pins σ Q (.ref e) ⟨h', g, dr, tk', os⟩
  obtain ⟨oe, fv, hoe, hc, hd, hdat, h1⟩ := M.obj
  have hns := M.ns
  obtain ⟨G', g1, g2⟩ := restrict h' fun b => decide (b ≠ e)
  have gk : ∀ b, b ≠ e → G'.get? b = h'.get? b := fun b hb => g1 b (decide_eq_true hb)
  have ge : G'.get? e = none := g2 e (by simp)
  have old : ∀ b o, hp.get? b = some o → G'.get? b = some o := fun b o q => (gk b (Nat.ne_of_lt (Nat.lt_of_lt_of_le (Heap.lt_size q) M.new))).trans (M.keep b o q)
  have ob : ObjOk X.prog X.w (upd H1 d (.xd (names.zip vs))) G' d (.xd (names.zip vs)) :=
    ⟨_, hns.at (fun o q => (gk d M.dne).trans q), fun f => rel f⟩
  have J : Inv X pins σ (upd H1 d (.xd (names.zip vs))) ⟨G', g, dr, tk', os⟩ := I1.laid (t' := tk') old M.dbig ob
  refine ⟨e, oe, fv, ⟨G', g, dr, tk', os⟩, _, .ref C, some d, rfl, J, fun b o q => ?_, ge, hoe, ⟨hc, hd⟩, hdat, h1, ?_, rfl, I1.bare, raises_own T.exC T.tyC, q1 d (I1.hok.fresh M.dbig)⟩
  · by_cases hb : b = e
    · have q' : G'.get? b = some o := q
      rw [hb, ge] at q'; cases q'
    · exact (gk b hb).symm.trans q
  · rw [upd_ne (Ne.symm M.dne)]
    exact I1.hok.fresh M.new
/-- raise C(e, ..) -/
def tRaiseErr (C : Addr) (names : List Str) (W : WX) (ta : TA) : TS := fun _ σ H => tMkErr C names ta σ H fun cls d H' => W cls d σ H'
theorem ps_raiseErr {a : Expr} {as : List Expr} {ta : TA} {W : WX} {p pos pos2 : Pos} {k : Nat} (hc : X.calm = true) (T : ErrTxt X.prog X.w X.K X.mg nm names C) (hr : Room k X.A) (tk : Takes X W) (ha : PA X (a :: as) ta) (hg : Gl X nm) (hdb : (nm == ("__debug__" : Str)) = false := by decide)
    (he : starEach (a :: as) X.env = (false, eval a X.env) :: starEach as X.env := by rfl) (hpl : (backTo pos (starEach as X.env)).any (·.1) = false := by rfl) :
    PS X (.Raise (some (.Call (.Name nm p) (a :: as) [] pos)) none pos2) (tRaiseErr C names W ta) := ps_raise hc tk (pmk_err T hr ha hg hdb he hpl)
end
end BS
namespace BS
open PySem PySem.Spec PyProof.Rows L2
/-- what may be handed in -/
inductive Arg (H : Hp) : V → Prop
  | int (i : Int) : Arg H (.int i)
  | bl (b : Bool) : Arg H (.bl b)
  | non : Arg H .non
  | str (x : Str) : Arg H (.str x)
  | lst {a : Addr} {xs : List V} (e : H a = some (.lst xs)) : Arg H (.ref a)
def isI : V → Bool
  | .int _ => true
  | _ => false
def inR (v : V) (lo hi : Int) : Bool := match v with
  | .int i => decide (i ≥ lo) && decide (i ≤ hi)
  | _ => false
theorem Arg.kit {K : PySem.W.Frag} {H : Hp} {v : V} (h : Arg H v) : ∃ (nm : String) (b1 b2 : Bool), TyX K H v (.type nm) ∧ PySem.W.kitOne K (.type nm) (.type "int") = some b1 ∧ PySem.W.kitOne K (.type nm) (.type "bool") = some b2 ∧ (b1 && !b2) = isI v ∧ nm ∈ ["int", "bool", "NoneType", "str", "list"] := by
  cases h with
  | int i => exact ⟨"int", true, false, .base (.int i), kit_ty (by decide +kernel), kit_ty (by decide +kernel), rfl, by decide⟩
  | bl b => exact ⟨"bool", true, true, .base (.bl b), kit_ty (by decide +kernel), kit_ty (by decide +kernel), rfl, by decide⟩
  | non => exact ⟨"NoneType", false, false, .base .non, kit_ty (by decide +kernel), kit_ty (by decide +kernel), rfl, by decide⟩
  | str x => exact ⟨"str", false, false, .base (.str x), kit_ty (by decide +kernel), kit_ty (by decide +kernel), rfl, by decide⟩
  | lst e => exact ⟨"list", false, false, .base (.lst e), kit_ty (by decide +kernel), kit_ty (by decide +kernel), rfl, by decide⟩
def spIsInt : Sp := fun vs H Q _ => ∃ v, vs = [v] ∧ Arg H v ∧ Q (.bl (isI v)) H
def spWithin : Sp := fun vs H Q _ => ∃ v lo hi, vs = [v, .int lo, .int hi] ∧ Arg H v ∧ Q (.bl (inR v lo hi)) H
def spNeedN (C : Addr) : Sp := fun vs H Q E => ∃ v, vs = [v, .str "bend", .int 1, .int 60] ∧ Arg H v ∧ (inR v 1 60 = true → Q .non H) ∧ (inR v 1 60 = false → ∀ d, H d = none → E (.ref C) (some d) (upd H d (.xd [("part", .str "bend")])))
section
variable {P : Program} {w : World} {K : PySem.W.Frag} {mg : Str → Option Value} {base : Heap}
theorem scIsInt : FnScope ["value"] ["value"] (defScope sIsInt) := ⟨rfl, rfl, rfl, by decide +kernel, rfl, by decide +kernel, by decide +kernel⟩
theorem ok_isint {f : Addr} {fd : FuncData} (F : Fun K "is_integer" "is_integer" sIsInt f fd) (B : Blt mg) : FnOk P w K mg base CX0 1 f fd ["value"] spIsInt := by
  refine F.ok scIsInt (fun vs H Q E h => ?_) (fun cdv A outer s H vs Q E hr h => ?_)
  · obtain ⟨v, rfl, _⟩ := h
    rfl
  · obtain ⟨v, rfl, ha, q⟩ := h
    obtain ⟨nm, b1, b2, ty, k1, k2, e, _⟩ := ha.kit (K := K)
    refine ⟨_, pss_one (ps_ret (pe_and (pe_callB call_isi (by rfl) B.isinstance (by decide +kernel) (pa_cons (pv 0) (pa_cons (pe_bltn (v := .ty "int") (by rfl) B.int (by decide +kernel) rfl) pa_nil)))
      (pe_one (pe_not (pe_callB call_isi (by rfl) B.isinstance (by decide +kernel) (pa_cons (pv 0) (pa_cons (pe_bltn (v := .ty "bool") (by rfl) B.bool (by decide +kernel) rfl) pa_nil))))))), ?_⟩
    refine ⟨_, rfl, v, _, _, _, b1, rfl, .ty "int", ty, k1, b1, rfl, ?_⟩
    cases b1 with
    | false => rw [← e] at q; exact q
    | true =>
      refine ⟨_, rfl, v, _, _, _, b2, rfl, .ty "bool", ty, k2, b2, rfl, ?_⟩
      rw [← e] at q; exact q
theorem scWithin : FnScope ["value", "least", "most"] ["value", "least", "most"] (defScope sWithin) := ⟨rfl, rfl, rfl, by decide +kernel, rfl, by decide +kernel, by decide +kernel⟩
theorem ok_within {f : Addr} {fd : FuncData} (F : Fun K "is_within" "is_within" sWithin f fd) (B : Blt mg) (cI : Cal P w K mg base CX0 1 "is_integer" ["value"] spIsInt) : FnOk P w K mg base CX0 2 f fd ["value", "least", "most"] spWithin := by
  obtain ⟨fI, fdI, mI, kI, bI, GI⟩ := cI
  refine F.ok scWithin (fun vs H Q E h => ?_) (fun cdv A outer s H vs Q E hr h => ?_)
  · obtain ⟨v, lo, hi, rfl, _⟩ := h
    rfl
  · obtain ⟨v, lo, hi, rfl, ha, q⟩ := h
    refine ⟨_, pss_cons (ps_if (pt_not (pt_val (pe_call GI hr rfl mI kI bI .nil pass0 (pa_cons (pv 0) pa_nil)))) (pss_one (ps_ret pe_bl)) pss_nil)
      (pss_one (ps_ret (pe_and (pe_or (pe_cmp (pc_isN (pv 1)) rfl) (pe_one (pe_cmpR op_ge (pv 0) (pv 1) (nomark _)))) (pe_one (pe_or (pe_cmp (pc_isN (pv 2)) rfl) (pe_one (pe_cmpR op_le (pv 0) (pv 2) (nomark _)))))))), ?_⟩
    refine ⟨_, rfl, v, rfl, ha, _, rfl, ?_⟩
    cases ha with
    | int i =>
      refine iF rfl ⟨_, rfl, _, rfl, _, rfl, _, rfl, _, _, rfl, rfl, _, rfl, ?_⟩
      cases c : decide (i ≥ lo) with
      | false =>
        have e : inR (.int i) lo hi = false := by show (decide (i ≥ lo) && decide (i ≤ hi)) = false; rw [c]; rfl
        rw [e] at q; exact q
      | true =>
        refine ⟨_, rfl, _, rfl, _, rfl, _, rfl, _, _, rfl, rfl, ?_⟩
        have e : inR (.int i) lo hi = decide (i ≤ hi) := by show (decide (i ≥ lo) && decide (i ≤ hi)) = _; rw [c]; rfl
        rw [e] at q; exact q
    | bl b => exact iT rfl q
    | non => exact iT rfl q
    | str x => exact iT rfl q
    | lst e => exact iT rfl q
theorem scNeedN : FnScope ["value", "part", "least", "most"] ["value", "part", "least", "most"] (defScope sNeedN) := ⟨rfl, rfl, rfl, by decide +kernel, rfl, by decide +kernel, by decide +kernel⟩
theorem ok_needn {f C : Addr} {fd : FuncData} (F : Fun K "need_number" "need_number" sNeedN f fd) (B : Blt mg) (T : ErrTxt P w K mg "BadNumber" ["part"] C) (cW : Cal P w K mg base CX0 2 "is_within" ["value", "least", "most"] spWithin) : FnOk P w K mg base (L2.CX P w) 3 f fd ["value", "part", "least", "most"] (spNeedN C) := by
  obtain ⟨fW, fdW, mW, kW, bW, GW⟩ := cW
  refine F.okX scNeedN (fun vs H Q E h => ?_) (fun cdv A outer s H vs Q E hr h => ?_)
  · obtain ⟨v, rfl, _⟩ := h
    rfl
  · obtain ⟨v, rfl, ha, q1, q2⟩ := h
    refine ⟨_, pss_one (ps_if (pt_not (pt_val (pe_call GW hr rfl mW kW bW .nil pass0 (pa_cons (pv 0) (pa_cons (pv 2) (pa_cons (pv 3) pa_nil)))))) (pss_one (ps_raiseErr rfl T hr (takes_of rfl rfl rfl rfl) (pa_cons (pv 1) pa_nil) rfl)) pss_nil), ?_⟩
    refine ⟨_, rfl, _, rfl, _, rfl, v, 1, 60, rfl, ha, _, rfl, ?_⟩
    cases c : inR v 1 60 with
    | true => exact iF rfl (q1 c)
    | false => exact iT rfl ⟨_, rfl, rfl, fun d hd => q2 c d hd⟩
/-! ### measure, need_bends, a Four -/
def spMeas (K : PySem.W.Frag) : Sp := fun vs H Q _ => ∃ (a : Addr) (b : List Int), vs = [.ref a] ∧ SqL K H a (b.map V.int) ∧ Q (.int ((gcd4 b : Nat) : Int)) H
theorem scMeas : FnScope ["values", "found", "value"] ["values"] (defScope sMeas) := ⟨rfl, rfl, rfl, by decide +kernel, rfl, by decide +kernel, by decide +kernel⟩
theorem gcd4_snoc (b : List Int) (x : Int) : gcd4 (b ++ [x]) = Nat.gcd (gcd4 b) x.natAbs := by unfold gcd4; rw [List.foldl_append]; rfl
theorem ok_meas {f : Addr} {fd : FuncData} (F : Fun K "measure" "measure" sMeas f fd) (B : Blt mg) : FnOk P w K mg base CX0 1 f fd ["values"] (spMeas K) := by
  refine F.ok scMeas (fun vs H Q E h => ?_) (fun cdv A outer s H vs Q E hr h => ?_)
  · obtain ⟨a, b, rfl, _⟩ := h
    rfl
  · obtain ⟨a, b, rfl, ha, q⟩ := h
    refine ⟨_, pss_cons (ps_set (i := 1) scMeas.nd rfl (Or.inl rfl) pe_int)
      (pss_cons (ps_for PassesOwn.never rfl (pi_list (pv 0)) (pg_name (i := 2) scMeas.nd rfl (Or.inl rfl))
        (pss_one (ps_set (i := 1) scMeas.nd rfl (Or.inl rfl) (pe_callBfun cr_gcd (by rfl) B.gcd (pa_cons (pv 1) (pa_cons (pv 2) pa_nil))))))
      (pss_one (ps_ret (pv 1)))), ?_⟩
    refine ⟨_, rfl, a, rfl, ⟨_, ha⟩, for_list (xs := b.map V.int) (fun i σ H' => ∃ x, σ = [some (.ref a), some (.int ((gcd4 (b.take i) : Nat) : Int)), x] ∧ H' = H) ⟨none, rfl, rfl⟩ (fun i σ H' _ ⟨x, _, e⟩ => e ▸ ha) ?_ ?_⟩
    · rintro i x σ H1 e ⟨y, rfl, rfl⟩
      have hi : i < b.length := by have := (List.getElem?_eq_some_iff.mp e).1; rwa [List.length_map] at this
      rw [at_int hi] at e
      cases e
      refine ⟨_, rfl, _, rfl, _, _, rfl, some (.int (b.getD i 0)), ?_, rfl⟩
      rw [List.take_succ_eq_append_getElem hi, gcd4_snoc]
      rw [List.getD_eq_getElem?_getD, List.getElem?_eq_getElem hi]
      rfl
    · rintro σ H1 ⟨x, rfl, rfl⟩
      refine ⟨_, rfl, ?_⟩
      rw [List.length_map, List.take_length]
      exact q
end
end BS
namespace BS
open PySem PySem.Spec PyProof.Rows L2
def spAre : Sp := fun vs H Q _ => ∃ (a : Addr) (b : List Int), vs = [.ref a] ∧ H a = some (.lst (b.map V.int)) ∧ b.length = 4 ∧ ∀ H', Same H H' → Q (.bl true) H'
def spNeedB : Sp := fun vs H Q _ => ∃ (a : Addr) (b : List Int), vs = [.ref a] ∧ H a = some (.lst (b.map V.int)) ∧ IsF b ∧ gcd4 b = 1 ∧ b.sum < 1099511627776 ∧ ∀ H', Same H H' → Q .non H'
/-- a four's bends are bounded by their sum -/
theorem bend_le {b : List Int} (f : IsF b) {x : Int} (h : x ∈ b) : -b.sum ≤ x ∧ x ≤ b.sum := by
  obtain ⟨p, q, r, t, rfl⟩ := four_of f.len
  obtain ⟨h1, h2, h3, h4, h5, h6⟩ := pairs f
  have hs := f.pos4
  rw [sum4]
  simp only [List.mem_cons, List.not_mem_nil, or_false] at h
  rcases h with rfl | rfl | rfl | rfl <;> omega
theorem sq_eq (b : List Int) : (b.map fun x => x * x).sum = sq b := rfl
/-- a Four at p of the bends b -/
def fourF (t : Addr) (z : Int) : List (Str × V) := putF "total" (.int z) (putF "bends" (.ref t) [])
theorem kbt : ¬ (("bends" : Str) = "total") := by decide +kernel
theorem fourF_bends (t : Addr) (z : Int) : (fourF t z).lookup ("bends" : Str) = some (.ref t) := by
  unfold fourF
  rw [lookup_putF, if_neg kbt, lookup_putF, if_pos rfl]
def FourAt (C : Addr) (H : Hp) (p : Addr) (b : List Int) : Prop := ∃ (t dx : Addr), H p = some (.ins C dx (fourF t b.sum)) ∧ H t = some (.tup (b.map V.int))
theorem FourAt.same {C : Addr} {H H' : Hp} {p : Addr} {b : List Int} (h : FourAt C H p b) (s : Same H H') : FourAt C H' p b := by
  obtain ⟨t, dx, e1, e2⟩ := h; exact ⟨t, dx, s _ _ e1, s _ _ e2⟩
structure FourTxt (K : PySem.W.Frag) (mg : Str → Option Value) (C : Addr) : Prop where
  cl : Cls K C
  gC : mg "Four" = some (.ref C)
  nB : NoAttr K C "bends"
  nT : NoAttr K C "total"
  ha : PySem.W.findIn K (.ref C) "__class__" = some (some (.builtin "object.__class__"))
  hn : PySem.W.specialIn K (.builtin "object.__class__") "__get__" = some (some (.builtin "getset_descriptor.__get__"))
  htk : PySem.W.takesIn K (.builtin "object.__class__") = some true
  hm : PySem.W.mroIn K C (.type "object") = some true
  no : ∀ nm, nm ∈ ["int", "bool", "NoneType", "str", "list"] → PySem.W.kitOne K (.type nm) (.ref C) = some false
def spFour (C : Addr) : Sp := fun vs H Q _ => ∃ (p a dx : Addr) (b : List Int), vs = [.ref p, .ref a] ∧ H p = some (.ins C dx []) ∧ H a = some (.lst (b.map V.int)) ∧ IsF b ∧ gcd4 b = 1 ∧ b.sum < 1099511627776 ∧
  ∀ H', (∀ q o, H q = some o → q ≠ p → H' q = some o) → FourAt C H' p b → Q .non H'
section
variable {P : Program} {w : World} {K : PySem.W.Frag} {mg : Str → Option Value} {base : Heap}
abbrev nAre : List Str := ["value", "each"]
theorem scAre : FnScope nAre ["value"] (defScope sAre) := ⟨rfl, rfl, rfl, by decide +kernel, rfl, by decide +kernel, by decide +kernel⟩
theorem ok_are {f : Addr} {fd : FuncData} (F : Fun K "are_integers" "are_integers" sAre f fd) (B : Blt mg) (cI : Cal P w K mg base CX0 1 "is_integer" ["value"] spIsInt) : FnOk P w K mg base CX0 2 f fd ["value"] spAre := by
  obtain ⟨fI, fdI, mI, kI, bI, GI⟩ := cI
  refine F.ok scAre (fun vs H Q E h => ?_) (fun cdv A outer s H vs Q E hr h => ?_)
  · obtain ⟨a, b, rfl, _⟩ := h
    rfl
  · obtain ⟨a, b, rfl, ha, hl, q⟩ := h
    refine ⟨_, pss_one (ps_ret (pe_and (pe_callB call_isiT (by rfl) B.isinstance (by decide +kernel) (pa_cons (pv 0) (pa_cons (pe_tup (pa_cons (pe_bltn (v := .ty "list") (by rfl) B.list (by decide +kernel) rfl) (pa_cons (pe_bltn (v := .ty "tuple") (by rfl) B.tuple (by decide +kernel) rfl) pa_nil))) pa_nil)))
      (pe_one (pe_callB (cr_all rfl) (by rfl) B.all (by decide +kernel) (pa_cons (pe_lc (own := [("each", 1)]) (g := gName 1) (tt := tYes) rfl scAre.nd (pi_list (pv 0))
        (blkOk_by (N := nAre) (sc := defScope sAre) (by decide +kernel)) (fun _ _ _ _ _ => pg_name (i := 1) scAre.nd rfl (Or.inl rfl)) (fun _ _ _ _ _ => pts_nil)
        (fun _ _ _ _ _ => pe_call GI hr rfl mI kI bI .nil pass0 (pa_cons (pv 1) pa_nil))) pa_nil))))), ?_⟩
    refine ⟨_, rfl, szl (by show 2 < 1000; omega), fun p np => ?_⟩
    have s1 := same_upd np (o := .tup [.ty "list", .ty "tuple"])
    refine ⟨_, p, _, _, [.type "list", .type "tuple"], true, rfl, upd_same, .cons (.ty "list") (.cons (.ty "tuple") .nil), .base (.lst (s1 _ _ ha)), ?_, true, rfl, ?_⟩
    · show PySem.W.kitAny K (.type "list") [.type "list", .type "tuple"] = some true
      have e : PySem.W.kitOne K (.type "list") (.type "list") = some true := kit_ty (by decide +kernel)
      unfold PySem.W.kitAny
      rw [e]
    generalize upd H p (.tup [.ty "list", .ty "tuple"]) = H1 at s1
    refine ⟨_, rfl, a, rfl, ⟨_, SqL.of (s1 _ _ ha)⟩, fun D hD => lc_list (K := K) (a := a) (xs := b.map V.int) (fun i H' => H' D = some (.lst ((List.replicate i true).map V.bl)) ∧ Same H1 H') ⟨upd_same, same_upd hD⟩ (fun i H' _ ⟨_, s⟩ => SqL.of (s _ _ (s1 _ _ ha))) ?_ ?_⟩
    · rintro i v H2 e ⟨hd, s⟩
      have hi : i < b.length := by have := (List.getElem?_eq_some_iff.mp e).1; rwa [List.length_map] at this
      rw [at_int hi] at e
      cases e
      refine ⟨rfl, _, rfl, _, rfl, .int _, _, hd, ?_, ?_, same_at s hD⟩
      · rw [List.length_map, List.length_replicate]; exact sz (by omega)
      · rw [upd_same, List.replicate_succ', List.map_append]; rfl
    · rintro H2 ⟨hd, s⟩
      refine ⟨D, _, rfl, SqL.of hd, ?_⟩
      have e : ∀ n : Nat, (List.replicate n true).all id = true := fun n => by rw [List.all_replicate]; cases n <;> rfl
      rw [e]
      exact q _ (s1.trans s)
abbrev nNeedB : List Str := ["bends", "total", "bend"]
theorem scNeedB : FnScope nNeedB ["bends"] (defScope sNeedB) := ⟨rfl, rfl, rfl, by decide +kernel, rfl, by decide +kernel, by decide +kernel⟩
theorem ok_needb {f : Addr} {fd : FuncData} (F : Fun K "need_bends" "need_bends" sNeedB f fd) (B : Blt mg) (cA : Cal P w K mg base CX0 2 "are_integers" ["value"] spAre) (cM : Cal P w K mg base CX0 1 "measure" ["values"] (spMeas K)) : FnOk P w K mg base CX0 3 f fd ["bends"] spNeedB := by
  obtain ⟨fA, fdA, mA, kA, bA, GA⟩ := cA
  obtain ⟨fM, fdM, mM, kM, bM, GM⟩ := cM
  obtain ⟨tp, hpl⟩ := B.places
  refine F.ok scNeedB (fun vs H Q E h => ?_) (fun cdv A outer s H vs Q E hr h => ?_)
  · obtain ⟨a, b, rfl, _⟩ := h
    rfl
  · obtain ⟨a, b, rfl, ha, fb, hg, hs, q⟩ := h
    have hr1 : Room 1 _ := hr.mono (by decide)
    refine ⟨_, pss_cons (ps_if (PW.pt (pw_or (pt_not (pt_val (pe_call GA hr rfl mA kA bA .nil pass0 (pa_cons (pv 0) pa_nil)))) (pw_or1 (pt_cmpR op_ne (pe_callB call_len_seq (by rfl) B.len PySem.boot_len (pa_cons (pv 0) pa_nil)) (pe_glob (v := .int 4) rfl hpl ⟨_, rfl⟩) (nomark _))))) (pss_one ps_never) pss_nil)
      (pss_cons (ps_set (i := 1) scNeedB.nd rfl (Or.inl rfl) (pe_callB (cr_sum rfl) (by rfl) B.sum (by decide +kernel) (pa_cons (pv 0) pa_nil)))
      (pss_cons (ps_if (pt_cmpR op_ne (pe_op op_mul pe_int (pe_callB (cr_sum rfl) (by rfl) B.sum (by decide +kernel) (pa_cons (pe_lc (own := [("bend", 2)]) (g := gName 2) (tt := tYes) rfl scNeedB.nd (pi_list (pv 0))
          (blkOk_by (N := nNeedB) (sc := defScope sNeedB) (by decide +kernel)) (fun _ _ _ _ _ => pg_name (i := 2) scNeedB.nd rfl (Or.inl rfl)) (fun _ _ _ _ _ => pts_nil)
          (fun _ _ _ _ _ => pe_op op_mul (pv 2) (pv 2))) pa_nil))) (pe_op op_mul (pv 1) (pv 1)) (nomark _)) (pss_one ps_never) pss_nil)
      (pss_cons (ps_if (pt_cmpR op_le (pv 1) pe_int (nomark _)) (pss_one ps_never) pss_nil)
      (pss_one (ps_if (pt_cmpR op_gt (pe_call GM hr1 rfl mM kM bM .nil pass0 (pa_cons (pv 0) pa_nil)) pe_int (nomark _)) (pss_one ps_never) pss_nil))))), ?_⟩
    have hl := fb.len
    refine ⟨_, rfl, a, b, rfl, ha, hl, fun H1 s1 => ⟨_, rfl, ?_⟩⟩
    refine iF rfl ⟨_, rfl, _, _, rfl, .inl (SqL.of (s1 _ _ ha)), rfl, _, rfl, ?_⟩
    refine iF (by rw [List.length_map, hl]; rfl) ?_
    refine ⟨_, rfl, a, b, rfl, SqL.of (s1 _ _ ha), ?_⟩
    refine ⟨_, rfl, a, rfl, ⟨_, SqL.of (s1 _ _ ha)⟩, fun D hD => lc_list (K := K) (a := a) (xs := b.map V.int) (fun i H' => H' D = some (.lst (((b.take i).map fun x => x * x).map V.int)) ∧ Same H1 H') ⟨upd_same, same_upd hD⟩ (fun i H' _ ⟨_, s⟩ => SqL.of (s _ _ (s1 _ _ ha))) ?_ ?_⟩
    · rintro i v H2 e ⟨hd, s⟩
      have hi : i < b.length := by have := (List.getElem?_eq_some_iff.mp e).1; rwa [List.length_map] at this
      rw [at_int hi] at e
      cases e
      have hm : b.getD i 0 ∈ b := by rw [List.getD_eq_getElem?_getD, List.getElem?_eq_getElem hi]; exact List.getElem_mem _
      have hb := bend_le fb hm
      refine ⟨rfl, _, rfl, _, rfl, _, _, rfl, rfl, .inl ⟨by omega, by omega⟩, _, hd, ?_, ?_, same_at s hD⟩
      · rw [List.length_map, List.length_map, List.length_take]; exact sz (by omega)
      · rw [upd_same, List.map_map, List.map_map]
        exact congrArg (fun l => some (HO.lst l)) (map_take_succ (fun x => V.int (x * x)) hi).symm
    · rintro H2 ⟨hd, s⟩
      rw [List.length_map, List.take_length] at hd
      have hp := fb.pos
      refine ⟨D, _, rfl, SqL.of hd, _, _, rfl, rfl, .inl ⟨by decide, by decide⟩, _, rfl, _, rfl, _, _, rfl, rfl, .inl ⟨by omega, by omega⟩, rfl, _, rfl, ?_⟩
      have e : 2 * (b.map fun x => x * x).sum = b.sum * b.sum := fb.eq
      refine iF (by show (!decide (V.int (2 * (b.map fun x => x * x).sum) = V.int (b.sum * b.sum))) = false; rw [e, decide_eq_true rfl]; rfl) ?_
      refine ⟨_, rfl, _, _, rfl, rfl, _, rfl, iF (decide_eq_false (by show ¬ b.sum ≤ 0; omega)) ?_⟩
      refine ⟨_, rfl, a, b, rfl, SqL.of (s _ _ (s1 _ _ ha)), _, _, rfl, rfl, _, rfl, iF ?_ (q H2 (s1.trans s))⟩
      rw [hg]; rfl
end
end BS
namespace BS
open PySem PySem.Spec PyProof.Rows L2
/-- bends that a Four is made of -/
structure Okb (b : List Int) : Prop where
  f : IsF b
  g : gcd4 b = 1
  s : b.sum < 1099511627776
def spNeedF (K : PySem.W.Frag) (CF C : Addr) : Sp := fun vs H Q E => ∃ v, vs = [v, .str "four"] ∧
  (((∃ p b, v = .ref p ∧ FourAt CF H p b) ∧ Q .non H) ∨ (Arg H v ∧ ∀ d, H d = none → E (.ref C) (some d) (upd H d (.xd [("part", .str "four")]))))
/-- the defs with a default -/
structure FunDf (K : PySem.W.Frag) (x : Str) (st : Stmt) (dvs : List V) (f : Addr) (fd : FuncData) : Prop where
  f : FunD K x x (defArgs st) (defBody st) (defScope st) dvs [] f fd
def spDown (K : PySem.W.Frag) (C : Addr) : Sp := fun vs H Q E => ∃ (t : Addr) (b l : List Int) (k : Nat), vs = [.ref t] ∧ SqT K H t (b.map V.int) ∧ IsF b ∧ Dn b k l ∧
  (k ≤ 200 → ∀ (u p q : Addr) (H' : Hp), Same H H' → H' u = some (.tup [.ref p, .ref q]) → SqT K H' p (l.map V.int) → Q (.ref u) H') ∧
  (200 < k → ∀ (d : Addr) (H' : Hp), Same H H' → H d = none → H' d = some (.xd [("what", .str "letters"), ("most", .int 200)]) → E (.ref C) (some d) H')
section
variable {P : Program} {w : World} {K : PySem.W.Frag} {mg : Str → Option Value} {base : Heap}
theorem scFour : FnScope ["self", "bends"] ["self", "bends"] (defScope sFour) := ⟨rfl, rfl, rfl, by decide +kernel, rfl, by decide +kernel, by decide +kernel⟩
theorem ok_four {f C : Addr} {fd : FuncData} (F : Fun K "__init__" "Four.__init__" sFour f fd) (B : Blt mg) (T : FourTxt K mg C) (cN : Cal P w K mg base CX0 3 "need_bends" ["bends"] spNeedB) : FnOk P w K mg base CX0 4 f fd ["self", "bends"] (spFour C) := by
  obtain ⟨fN, fdN, mN, kN, bN, GN⟩ := cN
  refine F.ok scFour (fun vs H Q E h => ?_) (fun cdv A outer s H vs Q E hr h => ?_)
  · obtain ⟨p, a, dx, b, rfl, _⟩ := h
    rfl
  · obtain ⟨p, a, dx, b, rfl, hp, ha, fb, hg, hs, q⟩ := h
    refine ⟨_, pss_cons (ps_expr (pe_call GN hr rfl mN kN bN .nil pass0 (pa_cons (pv 1) pa_nil)))
      (pss_cons (ps_fld (pv 0) (pe_callTy call_tuple_of (by rfl) B.tuple (by decide +kernel) (pa_cons (pv 1) pa_nil)) rfl)
      (pss_one (ps_fld (pv 0) (pe_callB (cr_sum rfl) (by rfl) B.sum (by decide +kernel) (pa_cons (pv 1) pa_nil)) rfl))), ?_⟩
    refine ⟨_, rfl, a, b, rfl, ha, fb, hg, hs, fun H1 s1 => ?_⟩
    refine ⟨_, rfl, a, _, rfl, .inl ⟨SqL.of (s1 _ _ ha), fun t nt => ?_⟩⟩
    have s2 := s1.trans (same_upd nt (o := .tup (b.map V.int)))
    have pt : p ≠ t := ne_of_none (s1 _ _ hp) nt
    have pa : p ≠ a := ne_of hp ha (by intro z; cases z)
    refine ⟨_, rfl, p, C, dx, _, rfl, s2 _ _ hp, T.cl, T.nB, (by show 0 < 1000; decide), ?_⟩
    refine ⟨_, rfl, a, b, rfl, SqL.of (by rw [upd_ne pa.symm]; exact s2 _ _ ha), ?_⟩
    refine ⟨_, rfl, p, C, dx, _, rfl, upd_same, T.cl, T.nT, (by show 1 < 1000; decide), ?_⟩
    refine q _ (fun r o e n => ?_) ⟨t, dx, upd_same, ?_⟩
    · rw [upd_ne n, upd_ne n]; exact s2 _ _ e
    · rw [upd_ne pt.symm, upd_ne pt.symm]; exact upd_same
theorem scNeedF : FnScope ["value", "part"] ["value", "part"] (defScope sNeedF) := ⟨rfl, rfl, rfl, by decide +kernel, rfl, by decide +kernel, by decide +kernel⟩
theorem kit_self {C : Addr} : PySem.W.kitOne K (.ref C) (.ref C) = some true := by
  unfold PySem.W.kitOne
  rw [if_pos (by simp)]
theorem ok_needf {f CF C : Addr} {fd : FuncData} (F : FunDf K "need_four" sNeedF [.str "four"] f fd) (B : Blt mg) (TF : FourTxt K mg CF) (T : ErrTxt P w K mg "BadFour" ["part"] C) : FnOk P w K mg base (L2.CX P w) 2 f fd ["value", "part"] (spNeedF K CF C) := by
  refine F.f.ok (CX := L2.CX P w) scNeedF (fun vs H Q E h => ?_) (fun cdv A outer s H vs Q E hr h => ?_)
  · obtain ⟨v, rfl, _⟩ := h
    rfl
  · obtain ⟨v, rfl, h⟩ := h
    refine ⟨_, pss_one (ps_if (pt_not (pt_val (pe_callB call_isi (by rfl) B.isinstance (by decide +kernel) (pa_cons (pv 0) (pa_cons (pe_glob (v := .ref CF) rfl TF.gC rfl) pa_nil))))) (pss_one (ps_raiseErr rfl T hr (takes_of rfl rfl rfl rfl) (pa_cons (pv 1) pa_nil) rfl)) pss_nil), ?_⟩
    rcases h with ⟨⟨p, b, rfl, t, dx, e1, e2⟩, q⟩ | ⟨ha, q⟩
    · refine ⟨_, rfl, _, _, _, _, true, rfl, .own CF, .base (.ins e1 TF.cl TF.ha TF.hn TF.htk TF.hm), kit_self, _, rfl, iF rfl q⟩
    · obtain ⟨nm, b1, b2, ty, k1, k2, e, hm⟩ := ha.kit (K := K)
      refine ⟨_, rfl, _, _, _, _, false, rfl, .own CF, ty, TF.no nm hm, _, rfl, iT rfl ?_⟩
      exact ⟨_, rfl, rfl, fun d hd => q d hd⟩
/-! ### down -/
theorem scDown : FnScope ["bends", "letters", "place"] ["bends"] (defScope sDown) := ⟨rfl, rfl, rfl, by decide +kernel, rfl, by decide +kernel, by decide +kernel⟩
theorem ok_down {f C : Addr} {fd : FuncData} (F : Fun K "down" "down" sDown f fd) (B : Blt mg) (T : ErrTxt P w K mg "TooMany" ["what", "most"] C) (cL : Cal P w K mg base CX0 1 "lowering" ["bends"] (spLow K)) (cE : Cal P w K mg base CX0 2 "exchanged_at" ["bends", "place"] (spExch K)) :
    FnOk P w K mg base (L2.CX P w) 3 f fd ["bends"] (spDown K C) := by
  obtain ⟨fL, fdL, mL, kL, bL, GL⟩ := cL
  obtain ⟨fE, fdE, mE, kE, bE, GE⟩ := cE
  obtain ⟨tm, hml⟩ := B.letters
  refine F.okX scDown (fun vs H Q E h => ?_) (fun cdv A outer s H vs Q E hr h => ?_)
  · obtain ⟨t, b, l, k, rfl, _⟩ := h
    rfl
  · obtain ⟨t, b, l, k, rfl, ht, fb, dn, q1, q2⟩ := h
    have hr1 : Room 1 _ := hr.mono (by decide)
    refine ⟨_, pss_cons (ps_par (i := 1) (j := 2) (by rfl) scDown.nd rfl rfl (by decide) rfl rfl (pa_cons (pe_lst pa_nil) (pa_cons (pe_call GL hr1 rfl mL kL bL .nil pass0 (pa_cons (pv 0) pa_nil)) pa_nil)) (by rfl))
      (pss_cons (ps_while (passes_of rfl) (pt_cmpR op_notN (pv 2) pe_non (nomark _))
        (pss_cons (ps_expr (pe_bm PySem.F.plainAttrs_list PySem.F.slot_list_append PySem.F.type_list_append mt_append (pv 1) (pa_cons (pv 2) pa_nil)))
        (pss_cons (ps_if (pt_cmpR op_gt (pe_callB call_len_seq (by rfl) B.len PySem.boot_len (pa_cons (pv 1) pa_nil)) (pe_glob (v := .int 200) rfl hml ⟨_, rfl⟩) (nomark _))
          (pss_one (ps_raiseErr rfl T hr (takes_of rfl rfl rfl rfl) (pa_cons pe_str (pa_cons (pe_glob (v := .int 200) rfl hml ⟨_, rfl⟩) pa_nil)) rfl)) pss_nil)
        (pss_cons (ps_set (i := 0) scDown.nd rfl (Or.inl rfl) (pe_call GE hr rfl mE kE bE .nil pass0 (pa_cons (pv 0) (pa_cons (pv 2) pa_nil))))
        (pss_one (ps_set (i := 2) scDown.nd rfl (Or.inl rfl) (pe_call GL hr1 rfl mL kL bL .nil pass0 (pa_cons (pv 0) pa_nil))))))))
      (pss_one (ps_ret (pe_tup (pa_cons (pe_callTy call_tuple_of (by rfl) B.tuple (by decide +kernel) (pa_cons (pv 0) pa_nil)) (pa_cons (pe_callTy call_tuple_of (by rfl) B.tuple (by decide +kernel) (pa_cons (pe_revL (pv 1)) pa_nil)) pa_nil)))))), ?_⟩
    refine ⟨szl (by decide), fun g ng => ⟨_, rfl, t, b, rfl, same_T (same_upd ng) ht, fb, fun H1 s1 => ⟨_, _, rfl, ?_⟩⟩⟩
    have sg := (same_upd ng (o := .lst [])).trans s1
    refine ⟨fun j σ H' => ∃ (t' : Addr) (c : List Int) (ws : List V), σ = [some (.ref t'), some (.ref g), some (lowV (lowP c))] ∧ SqT K H' t' (c.map V.int) ∧ H' g = some (.lst ws) ∧ ws.length + j = k ∧ ws.length ≤ 200 ∧ IsF c ∧ Dn c j l ∧ Same H H',
      ⟨k, t, b, [], rfl, same_T sg ht, s1 _ _ upd_same, by show 0 + k = k; omega, Nat.zero_le _, fb, dn, sg⟩, ?_⟩
    rintro j σ H2 ⟨t', c, ws, rfl, hc, hg, hk, hw, fc, dc, sm⟩
    refine ⟨_, rfl, rfl, _, rfl, ?_⟩
    cases dc with
    | stop h =>
      rw [h]
      refine iF rfl ?_
      refine ⟨_, rfl, t', _, rfl, .inr ⟨hc, ?_⟩⟩
      refine ⟨_, rfl, g, _, rfl, SqL.of hg, fun v nv => ?_⟩
      have s3 := same_upd nv (o := .lst ws.reverse)
      refine ⟨v, _, rfl, .inl ⟨SqL.of upd_same, fun v2 nv2 => ⟨szl (by show 2 < 1000; omega), fun u nu => ?_⟩⟩⟩
      have s4 := s3.trans (same_upd nv2 (o := .tup ws.reverse))
      have s5 := s4.trans (same_upd nu (o := .tup [.ref t', .ref v2]))
      exact q1 (by omega) u t' v2 _ (sm.trans s5) upd_same (same_T s5 hc)
    | step h d =>
      rename_i j' p
      have hp := (lowP_lt h).1
      rw [h]
      refine iT rfl ⟨fun σ H' => ∃ (t' : Addr) (c : List Int) (ws : List V), σ = [some (.ref t'), some (.ref g), some (lowV (lowP c))] ∧ SqT K H' t' (c.map V.int) ∧ H' g = some (.lst ws) ∧ ws.length + j' = k ∧ ws.length ≤ 200 ∧ IsF c ∧ Dn c j' l ∧ Same H H',
        fun σ' H' z => ⟨j', Nat.lt_succ_self _, z⟩, ?_⟩
      refine ⟨_, rfl, .inl ⟨rfl, _, SqL.of hg⟩, _, rfl, g, _, _, rfl, rfl, hg, by rw [sizeLine_eq]; omega, ?_⟩
      have s3 := same_at (o := .lst (ws ++ [lowV (some p)])) sm ng
      have hc3 : SqT K (upd H2 g (.lst (ws ++ [lowV (some p)]))) t' (c.map V.int) := by
        rcases hc with (hc | ⟨o, hc⟩) | hc
        · exact .inl (.inl (by rw [upd_ne (ne_of hc hg (by intro z; cases z))]; exact hc))
        · exact .inl (.inr ⟨o, by rw [upd_ne (ne_of hc hg (by intro z; cases z))]; exact hc⟩)
        · exact .inr hc
      generalize hH3 : upd H2 g (.lst (ws ++ [lowV (some p)])) = H3 at s3 hc3
      have hg3 : H3 g = some (.lst (ws ++ [lowV (some p)])) := by rw [← hH3, upd_same]
      refine ⟨_, rfl, g, _, rfl, .inl (SqL.of hg3), _, _, rfl, rfl, _, rfl, ?_⟩
      have el : (ws ++ [lowV (some p)]).length = ws.length + 1 := by rw [List.length_append]; rfl
      rw [el]
      by_cases c2 : ((ws.length + 1 : Nat) : Int) > 200
      · refine iT (decide_eq_true c2) ⟨rfl, fun d hd => ?_⟩
        exact q2 (by omega) d _ (s3.trans (same_upd hd)) (s3.free hd) upd_same
      · refine iF (decide_eq_false c2) ?_
        refine ⟨_, rfl, _, rfl, t', c, p, rfl, hc3, fc.len, hp, fun u H4 s4 nu hu => ?_⟩
        refine ⟨_, rfl, u, sw c p, rfl, SqT.of hu, isF_sw fc hp, fun H5 s5 => ?_⟩
        exact ⟨u, sw c p, _, rfl, SqT.of (s5 _ _ hu), s5 _ _ (s4 _ _ hg3), by rw [el]; omega, by rw [el]; omega, isF_sw fc hp, d, (s3.trans s4).trans s5⟩
end
end BS
namespace BS
open PySem PySem.Spec PyProof.Rows L2
def PairAt (K : PySem.W.Frag) (H : Hp) (q : Addr) (x : List Int × Nat) : Prop := ∃ t, H q = some (.tup [.ref t, .int (x.2 : Int)]) ∧ SqT K H t (x.1.map V.int)
abbrev PairsAt (K : PySem.W.Frag) (H : Hp) : List Addr → List (List Int × Nat) → Prop := Paired (PairAt K H)
theorem pairAt_same {K : PySem.W.Frag} {H H' : Hp} {q : Addr} {x : List Int × Nat} (s : Same H H') (h : PairAt K H q x) : PairAt K H' q x := by
  obtain ⟨t, e, h⟩ := h; exact ⟨t, s _ _ e, same_T s h⟩
theorem pairs_same {K : PySem.W.Frag} {H H' : Hp} (s : Same H H') : ∀ {as : List Addr} {xs : List (List Int × Nat)}, PairsAt K H as xs → PairsAt K H' as xs
  | [], _, .nil => .nil
  | _ :: _, _, .cons h t => .cons (pairAt_same s h) (pairs_same s t)
theorem pairs_snoc {K : PySem.W.Frag} {H : Hp} {a : Addr} {x : List Int × Nat} (h1 : PairAt K H a x) : ∀ {as : List Addr} {xs : List (List Int × Nat)}, PairsAt K H as xs → PairsAt K H (as ++ [a]) (xs ++ [x])
  | [], _, .nil => .cons h1 .nil
  | _ :: _, _, .cons h t => .cons h (pairs_snoc h1 t)
theorem rows_split {K : PySem.W.Frag} {tp : Bool} {H : Hp} : ∀ {as : List Addr} {ls : List (List Int)}, RowsAt K tp H as ls → as ≠ [] → ∃ as' a ls' s, as = as' ++ [a] ∧ ls = ls' ++ [s] ∧ RowsAt K tp H as' ls' ∧ RowAt K tp H a s
  | [], _, .nil, h => absurd rfl h
  | [a], _, .cons h .nil, _ => ⟨[], a, [], _, rfl, rfl, .nil, h⟩
  | a :: b :: r, _, .cons h t, _ => by
    obtain ⟨as', c, ls', s, e1, e2, h1, h2⟩ := rows_split t (List.cons_ne_nil _ _)
    exact ⟨a :: as', c, _ :: ls', s, by rw [e1]; rfl, by rw [e2]; rfl, .cons h h1, h2⟩
theorem work_len (w : Int) : ∀ ls, ls.length ≤ work w ls
  | [] => Nat.zero_le _
  | b :: r => by
    have := work_len w r
    show r.length + 1 ≤ (1 + (T w b).length) + work w r
    omega
theorem putA_succ (w : Int) (b : List Int) (n : Nat) : putA w b (n + 1) = putA w b n ++ (if Rise w b n ∧ ex b.sum (b.getD n 0) = w then [(sw b n, n)] else []) := by
  unfold putA; rw [List.range_succ, List.flatMap_append]; simp
theorem putB_succ (w : Int) (b : List Int) (n : Nat) : putB w b (n + 1) = putB w b n ++ (if Rise w b n then [sw b n] else []) := by
  unfold putB; rw [List.range_succ, List.flatMap_append]; simp
theorem putA_len (w : Int) (b : List Int) : ∀ n, (putA w b n).length ≤ n
  | 0 => Nat.le_refl _
  | n + 1 => by
    rw [putA_succ, List.length_append]
    have := putA_len w b n
    split <;> simp <;> omega
theorem putB_len (w : Int) (b : List Int) : ∀ n, (putB w b n).length ≤ n
  | 0 => Nat.le_refl _
  | n + 1 => by
    rw [putB_succ, List.length_append]
    have := putB_len w b n
    split <;> simp <;> omega
theorem found_len (w : Int) (b : List Int) : (rootF w b ++ F w b).length ≤ 4 + (T w b).length := by
  rw [List.length_append]
  have h1 : (rootF w b).length ≤ 4 := by unfold rootF; rw [List.length_map]; exact Nat.le_trans (List.length_filter_le _ _) (by simp)
  have h2 : (F w b).length ≤ (T w b).length := List.length_filter_le _ _
  omega
def rootN (w : Int) (b : List Int) (n : Nat) : List (List Int × Nat) := ((List.range n).filter fun p => decide (b.getD p 0 = w)).map fun p => (b, p)
theorem rootN_succ (w : Int) (b : List Int) (n : Nat) : rootN w b (n + 1) = rootN w b n ++ (if b.getD n 0 = w then [(b, n)] else []) := by
  unfold rootN
  rw [List.range_succ, List.filter_append, List.map_append]
  congr 1
  by_cases c : b.getD n 0 = w
  · rw [if_pos c, List.filter_cons_of_pos (by simpa using c)]; rfl
  · rw [if_neg c, List.filter_cons_of_neg (by simpa using c)]; rfl
theorem rootN_len (w : Int) (b : List Int) (n : Nat) : (rootN w b n).length ≤ n := by
  unfold rootN; rw [List.length_map]; exact Nat.le_trans (List.length_filter_le _ _) (by simp)
theorem sqT_upd {K : PySem.W.Frag} {H : Hp} {D a : Addr} {xs ys : List V} {o : HO} (h : SqT K H a xs) (e : H D = some (.lst ys)) : SqT K (upd H D o) a xs := by
  rcases h with (h | ⟨u, h⟩) | h
  · exact .inl (.inl (by rw [upd_ne (ne_of h e (by intro z; cases z))]; exact h))
  · exact .inl (.inr ⟨u, by rw [upd_ne (ne_of h e (by intro z; cases z))]; exact h⟩)
  · exact .inr h
theorem rowsT_upd {K : PySem.W.Frag} {H : Hp} {D : Addr} {ys : List V} {o : HO} (e : H D = some (.lst ys)) : ∀ {as : List Addr} {rows : List (List Int)}, RowsAt K true H as rows → RowsAt K true (upd H D o) as rows
  | [], _, .nil => .nil
  | _ :: _, _, .cons h t => .cons (sqT_upd h e) (rowsT_upd e t)
theorem pairs_upd {K : PySem.W.Frag} {H : Hp} {D : Addr} {ys : List V} {o : HO} (e : H D = some (.lst ys)) : ∀ {as : List Addr} {xs : List (List Int × Nat)}, PairsAt K H as xs → PairsAt K (upd H D o) as xs
  | [], _, .nil => .nil
  | _ :: _, _, .cons ⟨t, h1, h2⟩ r => .cons ⟨t, by rw [upd_ne (ne_of h1 e (by intro z; cases z))]; exact h1, sqT_upd h2 e⟩ (pairs_upd e r)
theorem pairs_len {K : PySem.W.Frag} {H : Hp} {as : List Addr} {xs : List (List Int × Nat)} (h : PairsAt K H as xs) : as.length = xs.length := Paired.length h
theorem map_snoc_ref (as : List Addr) (a : Addr) : (as ++ [a]).map V.ref = as.map V.ref ++ [V.ref a] := by rw [List.map_append]; rfl
def spEnds (K : PySem.W.Frag) : Sp := fun vs H Q _ => ∃ (t : Addr) (b : List Int) (w : Int), vs = [.ref t, .int w] ∧ SqT K H t (b.map V.int) ∧ b.length = 4 ∧ (T w b).length ≤ 58 ∧
  ∀ (l : Addr) (refs : List Addr) (xs : List (List Int × Nat)) (H' : Hp), Same H H' → H' l = some (.lst (refs.map V.ref)) → PairsAt K H' refs xs → xs.Perm (rootF w b ++ F w b) → Q (.ref l) H'
abbrev nEnds : List Str := ["bends", "wanted", "place", "found", "left", "some", "other"]
section
variable {P : Program} {w : World} {K : PySem.W.Frag} {mg : Str → Option Value} {base : Heap}
theorem scEnds : FnScope nEnds ["bends", "wanted"] (defScope sEnds) := ⟨rfl, rfl, rfl, by decide +kernel, rfl, by decide +kernel, by decide +kernel⟩
theorem ok_ends {f : Addr} {fd : FuncData} (Fu : Fun K "ends_with" "ends_with" sEnds f fd) (B : Blt mg) (cE : Cal P w K mg base CX0 2 "exchanged_at" ["bends", "place"] (spExch K)) : FnOk P w K mg base CX0 3 f fd ["bends", "wanted"] (spEnds K) := by
  obtain ⟨fE, fdE, mE, kE, bE, GE⟩ := cE
  obtain ⟨tp, hpl⟩ := B.places
  refine Fu.ok scEnds (fun vs H Q E h => ?_) (fun cdv A outer s H vs Q E hr h => ?_)
  · obtain ⟨t, b, w, rfl, _⟩ := h
    rfl
  · obtain ⟨t, b, w, rfl, ht, hl, hT, q⟩ := h
    refine ⟨_, pss_cons (ps_par (i := 3) (j := 4) (by rfl) scEnds.nd rfl rfl (by decide) rfl rfl (pa_cons (pe_lc (own := [("place", 2)]) (g := gName 2) rfl scEnds.nd (pi_range1 rfl B.range (pa_cons (pe_glob (v := .int 4) rfl hpl ⟨_, rfl⟩) pa_nil)) (blkOk_by (N := nEnds) (sc := defScope sEnds) (by decide +kernel)) (fun _ _ _ _ _ => pg_name (i := 2) scEnds.nd rfl (Or.inl rfl)) (fun _ _ _ _ _ => pts_one (pt_cmpR op_eq (pe_ix (ixT (K := K) rfl) (pv 0) (pv 2) (fun _ _ => rfl)) (pv 1) (nomark _))) (fun _ _ _ _ _ => pe_tup (pa_cons (pv 0) (pa_cons (pv 2) pa_nil)))) (pa_cons (pe_lst (pa_cons (pv 0) pa_nil)) pa_nil)) (by rfl))
      (pss_cons (ps_while PassesOwn.never (pt_cmpR (op_neD hr.units) (pv 4) (pe_lst pa_nil) (nomark _))
        (pss_cons (ps_set (i := 5) scEnds.nd rfl (Or.inl rfl) (pe_bm0 PySem.F.plainAttrs_list PySem.F.slot_list_pop PySem.F.type_list_pop mt_pop (pv 4)))
        (pss_one (ps_for PassesOwn.never rfl (pi_range1 rfl B.range (pa_cons (pe_glob (v := .int 4) rfl hpl ⟨_, rfl⟩) pa_nil)) (pg_name (i := 2) scEnds.nd rfl (Or.inl rfl))
          (pss_cons (ps_set (i := 6) scEnds.nd rfl (Or.inl rfl) (pe_call GE hr rfl mE kE bE .nil pass0 (pa_cons (pv 5) (pa_cons (pv 2) pa_nil))))
          (pss_one (ps_if (pt_chain op_lt op_le (pe_ix ix_tup (pv 5) (pv 2) (fun _ _ => rfl)) (pe_ix ix_tup (pv 6) (pv 2) (fun _ _ => rfl)) (pv 1)) (pss_cons (ps_expr (pe_bm PySem.F.plainAttrs_list PySem.F.slot_list_append PySem.F.type_list_append mt_append (pv 4) (pa_cons (pv 6) pa_nil))) (pss_one (ps_if (pt_cmpR op_eq (pe_ix ix_tup (pv 6) (pv 2) (fun _ _ => rfl)) (pv 1) (nomark _)) (pss_one (ps_expr (pe_bm PySem.F.plainAttrs_list PySem.F.slot_list_append PySem.F.type_list_append mt_append (pv 3) (pa_cons (pe_tup (pa_cons (pv 6) (pa_cons (pv 2) pa_nil))) pa_nil)))) pss_nil))) pss_nil)))))))
      (pss_one (ps_ret (pv 3)))), ?_⟩
    have h4 : ∀ p, p < 4 → p < b.length := fun p hp => by omega
    refine ⟨4, rfl, by decide, by decide, fun f nf => lc_range (lo := 0) (n := 4) (fun i H' => ∃ refs, H' f = some (.lst (refs.map V.ref)) ∧ PairsAt K H' refs (rootN w b i) ∧ Same H H') ⟨[], upd_same, .nil, same_upd nf⟩ ?_ ?_⟩
    · rintro i H1 hi ⟨refs, hf, hP, sm⟩
      rw [show (0 : Int) + (i : Int) = (i : Int) from by omega]
      refine ⟨rfl, _, rfl, _, rfl, t, _, i, _, rfl, rfl, same_T sm ht, atI_nat (at_int (h4 i hi)), _, rfl, rfl, _, rfl, ?_⟩
      by_cases c : b.getD i 0 = w
      · refine iT (decide_eq_true (by rw [c])) ⟨_, rfl, _, rfl, szl (by show 2 < 1000; omega), fun p np => ?_⟩
        have fp : f ≠ p := ne_of_none hf np
        have s2 := same_upd np (o := .tup [.ref t, .int (i : Int)])
        have hl2 := pairs_len hP
        have hl3 := rootN_len w b i
        refine ⟨_, s2 _ _ hf, by rw [List.length_map]; exact sz (by omega), refs ++ [p], by rw [upd_same, map_snoc_ref], ?_, same_at (sm.trans s2) nf⟩
        rw [rootN_succ, if_pos c]
        exact pairs_upd (s2 _ _ hf) (pairs_snoc (x := (b, i)) ⟨t, upd_same, same_T (sm.trans s2) ht⟩ (pairs_same s2 hP))
      · refine iF (decide_eq_false (fun z => c (by injection z))) ⟨refs, hf, ?_, sm⟩
        rw [rootN_succ, if_neg c, List.append_nil]; exact hP
    · rintro H1 ⟨refs0, hf0, hP0, sm0⟩
      refine ⟨_, rfl, szl (by show 1 < 1000; omega), fun lf nlf => ⟨_, _, rfl, ?_⟩⟩
      have fl : f ≠ lf := ne_of_none hf0 nlf
      have sl := same_upd nlf (o := .lst [.ref t])
      have nlf0 := sm0.free nlf
      refine ⟨fun m σ H' => ∃ (x2 x5 x6 : Option V) (frefs lrefs : List Addr) (xs : List (List Int × Nat)) (ls : List (List Int)), m = work w ls ∧ σ = [some (.ref t), some (.int w), x2, some (.ref f), some (.ref lf), x5, x6] ∧ H' f = some (.lst (frefs.map V.ref)) ∧ PairsAt K H' frefs xs ∧
        H' lf = some (.lst (lrefs.map V.ref)) ∧ RowsAt K true H' lrefs ls ∧ (∀ b ∈ ls, b.length = 4) ∧ work w ls ≤ 59 ∧ (xs ++ ls.flatMap (F w)).Perm (rootF w b ++ F w b) ∧ Same H H',
        ⟨_, none, none, none, refs0, [t], rootN w b 4, [b], rfl, rfl, by rw [upd_ne fl]; exact hf0, pairs_same sl hP0, upd_same, .cons (same_T (sm0.trans sl) ht) .nil, fun c hc => by rw [List.mem_singleton.mp hc]; exact hl, by show 1 + (T w b).length + 0 ≤ 59; omega, by
          rw [List.flatMap_cons, List.flatMap_nil, List.append_nil]; exact List.Perm.refl _, sm0.trans sl⟩, ?_⟩
      rintro m σ H2 ⟨x2, x5, x6, frefs, lrefs, xs, ls, rfl, rfl, hf, hP, hlf, hR, h44, hw59, hpm, sm⟩
      refine ⟨_, rfl, szl (by decide), fun z nz => ?_⟩
      have s3 := same_upd nz (o := .lst [])
      refine ⟨_, _, .lst (SqL.of (s3 _ _ hlf)) (dp_rows (rows_same s3 hR)), .lst (SqL.of upd_same) .nil, shaped_rows false true ls, shaped_nil, _, rfl, ?_⟩
      generalize upd H2 z (.lst []) = H3 at s3
      have hf := s3 _ _ hf
      have hlf := s3 _ _ hlf
      have hP := pairs_same s3 hP
      have hR := rows_same s3 hR
      have sm := sm.trans s3
      rw [eqv_ne_nil]
      have hlen := rows_len hR
      by_cases cl : ls = []
      · subst cl
        refine iF rfl ⟨_, rfl, q f frefs xs H3 sm hf hP ?_⟩
        rw [List.flatMap_nil, List.append_nil] at hpm
        exact hpm
      · refine iT (by cases ls with | nil => exact absurd rfl cl | cons x r => rfl) ?_
        have cl2 : lrefs ≠ [] := fun z => cl (List.eq_nil_of_length_eq_zero (by rw [← hlen, z]; rfl))
        obtain ⟨lr, a, ls', s, rfl, rfl, hR', hs⟩ := rows_split hR cl2
        have hs4 : s.length = 4 := h44 s (by simp)
        have wl : work w (ls' ++ [s]) = work w ls' + (1 + (T w s).length) := by rw [work_app]; rfl
        refine ⟨fun σ H' => ∃ (x2 x5 x6 : Option V) (frefs lrefs : List Addr) (xs : List (List Int × Nat)) (ls : List (List Int)), work w ls < work w (ls' ++ [s]) ∧ σ = [some (.ref t), some (.int w), x2, some (.ref f), some (.ref lf), x5, x6] ∧ H' f = some (.lst (frefs.map V.ref)) ∧ PairsAt K H' frefs xs ∧
          H' lf = some (.lst (lrefs.map V.ref)) ∧ RowsAt K true H' lrefs ls ∧ (∀ b ∈ ls, b.length = 4) ∧ work w ls ≤ 59 ∧ (xs ++ ls.flatMap (F w)).Perm (rootF w b ++ F w b) ∧ Same H H',
          fun σ' H' ⟨x2, x5, x6, frefs, lrefs, xs, ls, h1, h2⟩ => ⟨_, h1, x2, x5, x6, frefs, lrefs, xs, ls, rfl, h2⟩, ?_⟩
        rw [map_snoc_ref] at hlf
        refine ⟨_, rfl, .inl ⟨rfl, _, SqL.of hlf⟩, lf, _, .ref a, rfl, rfl, hlf, by simp, ?_⟩
        rw [List.dropLast_concat]
        have nf0 : H f = none := nf
        have fx : xs.length ≤ 62 := by
          have h1 := hpm.length_eq
          have h2 := found_len w b
          rw [List.length_append] at h1
          omega
        have wls := work_len w (ls' ++ [s])
        have hl' : lr.length = ls'.length := rows_len hR'
        rw [List.length_append] at wls
        refine ⟨4, rfl, by decide, by decide, for_range (lo := 0) (n := 4) (fun p σ H' => ∃ (x2 x6 : Option V) (fr lr : List Addr), σ = [some (.ref t), some (.int w), x2, some (.ref f), some (.ref lf), some (.ref a), x6] ∧ H' f = some (.lst (fr.map V.ref)) ∧ PairsAt K H' fr (xs ++ putA w s p) ∧
          H' lf = some (.lst (lr.map V.ref)) ∧ RowsAt K true H' lr (ls' ++ putB w s p) ∧ SqT K H' a (s.map V.int) ∧ Same H H')
          ⟨x2, x6, frefs, lr, rfl, by rw [upd_ne fl]; exact hf, ?_, upd_same, ?_, sqT_upd hs hlf, same_at sm nlf0⟩ ?_ ?_⟩
        · rw [show putA w s 0 = [] from rfl, List.append_nil]; exact pairs_upd hlf hP
        · rw [show putB w s 0 = [] from rfl, List.append_nil]; exact rowsT_upd hlf hR'
        · rintro p σ H4 hp ⟨y2, y6, fr, lr2, rfl, gf, gP, glf, gR, gs, sm4⟩
          rw [show (0 : Int) + (p : Int) = (p : Int) from by omega]
          have la := putA_len w s p
          have lb := putB_len w s p
          have lfr := pairs_len gP
          have llr := rows_len gR
          rw [List.length_append] at lfr llr
          refine ⟨_, rfl, _, rfl, a, s, p, rfl, gs, hs4, hp, fun u H5 s5 nu hu => ?_⟩
          have gs5 := same_T s5 gs
          have es : p < (sw s p).length := by rw [len_sw, hs4]; exact hp
          refine ⟨_, rfl, _, rfl, a, _, p, _, rfl, rfl, gs5, atI_nat (at_int (by rw [hs4]; exact hp)), _, rfl, _, rfl, u, _, p, _, rfl, rfl, SqT.of hu, atI_nat (at_int es), _, _, rfl, rfl, _, rfl, ?_⟩
          have no : ¬ Rise w s p → ∀ σ', σ' = [some (.ref t), some (.int w), some (.int (p : Int)), some (.ref f), some (.ref lf), some (.ref a), some (.ref u)] → ∃ (x2 x6 : Option V) (fr lr : List Addr), σ' = [some (.ref t), some (.int w), x2, some (.ref f), some (.ref lf), some (.ref a), x6] ∧ H5 f = some (.lst (fr.map V.ref)) ∧ PairsAt K H5 fr (xs ++ putA w s (p + 1)) ∧
              H5 lf = some (.lst (lr.map V.ref)) ∧ RowsAt K true H5 lr (ls' ++ putB w s (p + 1)) ∧ SqT K H5 a (s.map V.int) ∧ Same H H5 := by
            intro hn σ' e
            refine ⟨_, _, fr, lr2, e, s5 _ _ gf, ?_, s5 _ _ glf, ?_, gs5, sm4.trans s5⟩
            · rw [putA_succ, if_neg (fun z => hn z.1), List.append_nil]; exact pairs_same s5 gP
            · rw [putB_succ, if_neg hn, List.append_nil]; exact rows_same s5 gR
          have eg := get_sw hs4 hp
          by_cases c1 : s.getD p 0 < (sw s p).getD p 0
          · refine iT (decide_eq_true c1) ⟨_, rfl, _, _, rfl, rfl, _, rfl, ?_⟩
            by_cases c2 : (sw s p).getD p 0 ≤ w
            · have hri : Rise w s p := by rw [eg] at c1 c2; exact ⟨c1, c2⟩
              refine iT (decide_eq_true c2) ⟨_, rfl, .inl ⟨rfl, _, SqL.of (s5 _ _ glf)⟩, _, rfl, lf, _, _, rfl, rfl, s5 _ _ glf, by rw [List.length_map]; exact sz (by omega), ?_⟩
              have n5 := sm4.trans s5
              generalize hH6 : upd H5 lf (.lst (lr2.map V.ref ++ [.ref u])) = H6
              have e6 : H6 lf = some (.lst ((lr2 ++ [u]).map V.ref)) := by rw [← hH6, upd_same, map_snoc_ref]
              have f6 : H6 f = some (.lst (fr.map V.ref)) := by rw [← hH6, upd_ne fl]; exact s5 _ _ gf
              have P6 : PairsAt K H6 fr (xs ++ putA w s p) := hH6 ▸ pairs_upd (s5 _ _ glf) (pairs_same s5 gP)
              have R6 : RowsAt K true H6 (lr2 ++ [u]) (ls' ++ putB w s (p + 1)) := by
                rw [putB_succ, if_pos hri, ← List.append_assoc, ← hH6]
                exact rowsT_upd (s5 _ _ glf) (rows_snoc (tp := true) (show RowAt K true H5 u (sw s p) from SqT.of hu) (rows_same s5 gR))
              have u6 : SqT K H6 u ((sw s p).map V.int) := hH6 ▸ sqT_upd (SqT.of hu) (s5 _ _ glf)
              have a6 : SqT K H6 a (s.map V.int) := hH6 ▸ sqT_upd gs5 (s5 _ _ glf)
              have m6 : Same H H6 := hH6 ▸ same_at n5 nlf0
              refine ⟨_, rfl, _, rfl, u, _, p, _, rfl, rfl, u6, atI_nat (at_int es), _, rfl, rfl, _, rfl, ?_⟩
              by_cases c3 : (sw s p).getD p 0 = w
              · refine iT (decide_eq_true (by rw [c3])) ⟨_, rfl, .inl ⟨rfl, _, SqL.of f6⟩, _, rfl, _, rfl, szl (by show 2 < 1000; omega), fun pr npr => ?_⟩
                have s7 := same_upd npr (o := .tup [.ref u, .int (p : Int)])
                refine ⟨f, _, _, rfl, rfl, s7 _ _ f6, by rw [List.length_map]; exact sz (by omega), ?_⟩
                refine ⟨_, _, fr ++ [pr], lr2 ++ [u], rfl, by rw [upd_same, map_snoc_ref], ?_, by rw [upd_ne fl.symm]; exact s7 _ _ e6, rowsT_upd (s7 _ _ f6) (rows_same s7 R6), sqT_upd (same_T s7 a6) (s7 _ _ f6), same_at (m6.trans s7) nf⟩
                rw [putA_succ, if_pos ⟨hri, by rw [← eg]; exact c3⟩, ← List.append_assoc]
                exact pairs_upd (s7 _ _ f6) (pairs_snoc (x := (sw s p, p)) ⟨u, upd_same, same_T s7 u6⟩ (pairs_same s7 P6))
              · refine iF (decide_eq_false (fun z => c3 (by injection z))) ⟨_, _, fr, lr2 ++ [u], rfl, f6, ?_, e6, R6, a6, m6⟩
                rw [putA_succ, if_neg (fun z => c3 (by rw [eg]; exact z.2)), List.append_nil]; exact P6
            · refine iF (decide_eq_false c2) (no (fun z => c2 (by rw [eg]; exact z.2)) _ rfl)
          · refine iF (decide_eq_false c1) ⟨_, rfl, iF rfl (no (fun z => c1 (by rw [eg]; exact z.1)) _ rfl)⟩
        · rintro σ H4 ⟨y2, y6, fr, lr2, rfl, gf, gP, glf, gR, gs, sm4⟩
          have wn : work w (ls' ++ putB w s 4) = work w ls' + (T w s).length := by rw [work_app, putB_work hs4]
          refine ⟨_, _, _, fr, lr2, xs ++ putA w s 4, ls' ++ putB w s 4, by rw [wn, wl]; omega, rfl, gf, gP, glf, gR, fun c hc => ?_, by rw [wn]; omega, ?_, sm4⟩
          · rcases List.mem_append.mp hc with hc | hc
            · exact h44 c (by simp [hc])
            · unfold putB at hc
              obtain ⟨p, hp1, hp2⟩ := List.mem_flatMap.mp hc
              by_cases cr : Rise w s p
              · rw [if_pos cr] at hp2
                rw [List.mem_singleton.mp hp2, len_sw]; exact hs4
              · rw [if_neg cr] at hp2; exact absurd hp2 List.not_mem_nil
          · refine List.Perm.trans ?_ hpm
            rw [List.flatMap_append, List.flatMap_append, List.flatMap_cons, List.flatMap_nil, List.append_nil, List.append_assoc]
            refine (List.Perm.refl xs).append ?_
            have h1 : (putA w s 4 ++ (ls'.flatMap (F w) ++ (putB w s 4).flatMap (F w))).Perm (ls'.flatMap (F w) ++ (putA w s 4 ++ (putB w s 4).flatMap (F w))) := by
              rw [← List.append_assoc, ← List.append_assoc]
              exact List.perm_append_comm.append_right _
            exact h1.trans ((List.Perm.refl _).append (turn_perm hs4))
end
end BS
namespace BS
open PySem PySem.Spec PyProof.Rows L2
theorem Tr.sum {v : Int} {r b : List Int} (f : IsF r) (h : Tr v r b) : b = r ∨ b.sum < 2 * v := by
  cases h with
  | root => exact .inl rfl
  | @step c p hc hp u =>
    have fc := hc.isF f
    right
    rw [sum_sw fc.len hp]
    obtain ⟨u1, u2⟩ := u
    unfold ex at u1 u2
    omega
/-- a least four as they are drawn -/
structure Low (r : List Int) : Prop where
  s : r.sum ≤ 546
  t : (T 60 r).length ≤ 58
def CalD (P : Program) (w : World) (K : PySem.W.Frag) (mg : Str → Option Value) (base : Heap) (CX : CXT) (k : Nat) (x : Str) (ps : List Str) (dvs : List V) (sp : Sp) : Prop :=
  ∃ (f : Addr) (fd : FuncData) (ds : List Value), mg x = some (.ref f) ∧ PySem.W.keepIn K (.ref f) = true ∧ Binds K fd ps ds ∧ Vals dvs ds ∧ FnOk P w K mg base CX k f fd ps sp
def rTupOf (K : PySem.W.Frag) : List V → Hp → VK → Prop := fun xs H Q => ∃ p ys, xs = [.ref p] ∧ ((SqL K H p ys ∧ ∀ l, H l = none → Q (.ref l) (upd H l (.tup ys))) ∨ (SqT K H p ys ∧ Q (.ref p) H))
theorem tupOf {X : Cx} {K : PySem.W.Frag} (h : X.K = K) : CallR X (.type "tuple") (rTupOf K) := by subst h; exact call_tuple_of
theorem sortTI {X : Cx} {K : PySem.W.Frag} (h : X.K = K) {k : Nat} (hr : Room k X.A) : CallR X (.builtin "sorted") (rSortTI K) := by subst h; exact cr_sortTI hr
def spOut (K : PySem.W.Frag) (CF CB CN CT : Addr) : Sp := fun vs H Q E => ∃ (v x : V), vs = [v, x] ∧
  ((Arg H v ∧ ∀ d, H d = none → E (.ref CB) (some d) (upd H d (.xd [("part", .str "four")]))) ∨
   ((∃ p b, v = .ref p ∧ FourAt CF H p b) ∧ Arg H x ∧ inR x 1 60 = false ∧ ∀ d, H d = none → E (.ref CN) (some d) (upd H d (.xd [("part", .str "bend")]))) ∨
   (∃ (p : Addr) (b r : List Int) (k : Nat) (n : Int), v = .ref p ∧ x = .int n ∧ 1 ≤ n ∧ n ≤ 60 ∧ FourAt CF H p b ∧ IsF b ∧ Dn b k r ∧ Low r ∧
     (200 < k → ∀ (d : Addr) (H' : Hp), Same H H' → H d = none → H' d = some (.xd [("what", .str "letters"), ("most", .int 200)]) → E (.ref CT) (some d) H') ∧
     (k ≤ 200 → ∀ (u : Addr) (refs : List Addr) (R : List (List Int)) (H' : Hp), Same H H' → H' u = some (.tup (refs.map V.ref)) → RowsAt K true H' refs (R.mergeSort rle) → Tells n r R → Q (.ref u) H')))
abbrev nOut : List Str := ["four", "bend", "found", "some", "place", "bends"]
theorem sqT_keep {K : PySem.W.Frag} {H : Hp} {D a : Addr} {xs : List V} {o u : HO} (h : SqT K H a xs) (e : H D = some u) (n1 : ∀ ys, HO.tup ys ≠ u) (n2 : ∀ q v, HO.frz q v ≠ u) : SqT K (upd H D o) a xs := by
  rcases h with (h | ⟨z, h⟩) | h
  · exact .inl (.inl (by rw [upd_ne (ne_of h e (n1 _))]; exact h))
  · exact .inl (.inr ⟨z, by rw [upd_ne (ne_of h e (n2 _ _))]; exact h⟩)
  · exact .inr h
section
variable {P : Program} {w : World} {K : PySem.W.Frag} {mg : Str → Option Value} {base : Heap}
theorem passF {P : Program} {w : World} {X : Cx} (hP : X.prog = P) (hw : X.w = w) : Passes (L2.CX P w) X E0 := fun pins σ H s e s' I c => by
  obtain ⟨a, Bh, H', cls, d, _, _, _, _, _, _, _, h⟩ := c
  exact h.elim
theorem scOut : FnScope nOut ["four", "bend"] (defScope sOut) := ⟨rfl, rfl, rfl, by decide +kernel, rfl, by decide +kernel, by decide +kernel⟩
theorem ok_out {f CF CB CN CT : Addr} {fd : FuncData} (Fu : Fun K "turned_out" "turned_out" sOut f fd) (B : Blt mg) (TF : FourTxt K mg CF)
    (cF : CalD P w K mg base (L2.CX P w) 2 "need_four" ["value", "part"] [.str "four"] (spNeedF K CF CB)) (cN : Cal P w K mg base (L2.CX P w) 3 "need_number" ["value", "part", "least", "most"] (spNeedN CN))
    (cD : Cal P w K mg base (L2.CX P w) 3 "down" ["bends"] (spDown K CT)) (cT : Cal P w K mg base CX0 1 "turned_at" ["bends", "place"] (spTurn K)) (cE : Cal P w K mg base CX0 3 "ends_with" ["bends", "wanted"] (spEnds K)) :
    FnOk P w K mg base (L2.CX P w) 4 f fd ["four", "bend"] (spOut K CF CB CN CT) := by
  obtain ⟨fF, fdF, dF, mF, kF, bF, vF, GF⟩ := cF
  obtain ⟨fN, fdN, mN, kN, bN, GN⟩ := cN
  obtain ⟨fD, fdD, mD, kD, bD, GD⟩ := cD
  obtain ⟨fT, fdT, mT, kT, bT, GT⟩ := cT
  obtain ⟨fE, fdE, mE, kE, bE, GE⟩ := cE
  obtain ⟨tb, hmb⟩ := B.bend
  refine Fu.okX scOut (fun vs H Q E h => ?_) (fun cdv A outer s H vs Q E hr h => ?_)
  · obtain ⟨v, x, rfl, _⟩ := h
    rfl
  · obtain ⟨v, x, rfl, h⟩ := h
    have hr1 : Room 1 _ := hr.mono (by decide)
    have hr2 : Room 2 _ := hr.mono (by decide)
    refine ⟨_, pss_cons (ps_expr (pe_call (E := E) GF hr2 rfl mF kF bF vF (passes_call (W := fun cls d σ H => E cls d H) (takes_of rfl rfl rfl rfl) (fun _ _ _ _ h => h)) (pa_cons (pv 0) pa_nil)))
      (pss_cons (ps_expr (pe_call (E := E) GN hr rfl mN kN bN .nil (passes_call (W := fun cls d σ H => E cls d H) (takes_of rfl rfl rfl rfl) (fun _ _ _ _ h => h)) (pa_cons (pv 1) (pa_cons pe_str (pa_cons pe_int (pa_cons (pe_glob (v := .int 60) rfl hmb ⟨_, rfl⟩) pa_nil))))))
      (pss_cons (ps_setLc (i := 2) (own := [("some", 3), ("place", 4)]) (g := gTup K 2 (gCons (gName 3) (gCons (gName 4) gNil))) (tt := tYes) rfl scOut.nd rfl rfl (sw_true rfl rfl rfl (by decide +kernel))
        (pi_list (pe_call GE hr rfl mE kE bE .nil pass0 (pa_cons (pe_ix ix_tup (pe_call (E := E) GD hr rfl mD kD bD .nil (passes_call (W := fun cls d σ H => E cls d H) (takes_of rfl rfl rfl rfl) (fun _ _ _ _ h => h)) (pa_cons (pe_fld (pv 0) rfl) pa_nil)) pe_int (fun _ _ => rfl)) (pa_cons (pv 1) pa_nil))))
        (blkOk_by (N := nOut) (sc := defScope sOut) (by decide +kernel)) (fun _ _ _ _ _ => pg_tup rfl (pgs_cons (pg_name (i := 3) scOut.nd rfl (Or.inl rfl)) (pgs_cons (pg_name (i := 4) scOut.nd rfl (Or.inl rfl)) pgs_nil))) (fun _ _ _ _ _ => pts_nil)
        (fun _ _ _ _ _ => pe_ix (ixT (K := K) rfl) (pe_call GD hr rfl mD kD bD .nil (passF rfl rfl) (pa_cons (pe_call GT hr1 rfl mT kT bT .nil pass0 (pa_cons (pv 3) (pa_cons (pv 4) pa_nil))) pa_nil)) pe_int (fun _ _ => rfl)))
      (pss_one (ps_ret (pe_callTy call_tuple_of (by rfl) B.tuple (by decide +kernel) (pa_cons (pe_callB (cr_sortSetR rfl hr) (by rfl) B.sorted (by decide +kernel) (pa_cons
        (pe_scT (own := [("bends", 5)]) (g := gName 5) (tt := tYes) hr rfl scOut.nd (pi_list (pv 2)) (blkOk_by (N := nOut) (sc := defScope sOut) (by decide +kernel)) (fun _ _ _ _ _ => pg_name (i := 5) scOut.nd rfl (Or.inl rfl)) (fun _ _ _ _ _ => pts_nil)
          (fun _ _ _ _ _ => pe_callTy (tupOf (K := K) rfl) (by rfl) B.tuple (by decide +kernel) (pa_cons (pe_callB (sortTI (K := K) rfl hr) (by rfl) B.sorted (by decide +kernel) (pa_cons (pv 5) pa_nil)) pa_nil))) pa_nil)) pa_nil)))))), ?_⟩
    rcases h with ⟨ha, q⟩ | ⟨⟨p, b, rfl, hp⟩, ha, hin, q⟩ | ⟨p, b, r, k, n, rfl, rfl, n1, n60, hp, fb, dn, lo, q1, q2⟩
    · exact ⟨_, rfl, _, rfl, .inr ⟨ha, q⟩⟩
    · exact ⟨_, rfl, _, rfl, .inl ⟨⟨p, b, rfl, hp⟩, _, rfl, _, rfl, ha, fun z => (by rw [hin] at z; cases z), fun _ => q⟩⟩
    refine ⟨_, rfl, _, rfl, .inl ⟨⟨p, b, rfl, hp⟩, _, rfl, .int n, rfl, .int n, fun _ => ?_, fun z => ?_⟩⟩
    rotate_left
    · have e : inR (.int n) 1 60 = true := by show (decide (n ≥ 1) && decide (n ≤ 60)) = true; rw [decide_eq_true (show n ≥ 1 from n1), decide_eq_true n60]; rfl
      rw [e] at z; cases z
    obtain ⟨t, dx, hp1, hp2⟩ := hp
    refine ⟨_, rfl, p, CF, dx, _, _, rfl, hp1, TF.cl, TF.nB, fourF_bends _ _, t, b, r, k, rfl, SqT.of hp2, fb, dn, fun hk u rp rq H1 s1 hu hrp => ?_, q1⟩
    obtain ⟨fr, lr, _⟩ := dn.isF fb
    have hT : (T n r).length ≤ 58 := Nat.le_trans (len_mono _ (Nat.le_refl _) fr.len n60) lo.t
    refine ⟨u, _, 0, .ref rp, rfl, rfl, SqT.of hu, rfl, _, rfl, rp, r, n, rfl, hrp, fr.len, hT, fun l refs xs H2 s2 hl hP hpm => ?_⟩
    have facts : ∀ x, x ∈ xs → x.2 < 4 ∧ x.1.length = 4 ∧ IsF (tn x.1 x.2) ∧ (tn x.1 x.2).sum ≤ 786 := by
      intro x hx
      have hx2 := hpm.mem_iff.mp hx
      obtain ⟨tr, x4, xn⟩ := Fnd.tr ((fnd_iff fr).mpr hx2) fr
      have fx := tr.isF fr
      have hs := tr.sum fr
      have hpos := fx.pos
      refine ⟨x4, fx.len, isF_tn fx x4 (by omega), ?_⟩
      rw [sum_tn fx.len x4, xn]
      rcases hs with rfl | hs
      · have := lo.s; omega
      · omega
    have hlx : xs.length ≤ 62 := by have h1 := hpm.length_eq; have h2 := found_len n r; omega
    have hlr := pairs_len hP
    have sm12 := s1.trans s2
    refine ⟨l, rfl, ⟨_, SqL.of hl⟩, fun D hD => lc_list (K := K) (a := l) (xs := refs.map V.ref) (fun i H' => ∃ fr : List Addr, H' D = some (.lst (fr.map V.ref)) ∧ RowsAt K true H' fr ((xs.take i).map fun x => dwn (tn x.1 x.2)) ∧ Same H2 H') ⟨[], upd_same, .nil, same_upd hD⟩ (fun i H' _ ⟨_, _, _, s⟩ => SqL.of (s _ _ hl)) ?_ ?_⟩
    · rintro i y H3 e ⟨frs, hd, hR, s3⟩
      rw [List.getElem?_map] at e
      cases er : refs[i]? with
      | none => rw [er] at e; cases e
      | some qa =>
        rw [er] at e
        cases e
        obtain ⟨x, ex, t2, hq, ht2⟩ := paired_get hP er
        obtain ⟨hi, ex2⟩ := List.getElem?_eq_some_iff.mp ex
        have hx : x ∈ xs := ex2 ▸ List.getElem_mem hi
        obtain ⟨x4, xl, fx, sx⟩ := facts x hx
        refine ⟨qa, _, rfl, SqT.of (s3 _ _ hq), rfl, _, _, rfl, _, _, rfl, rfl, rfl, ?_⟩
        refine ⟨_, rfl, _, rfl, t2, x.1, x.2, rfl, same_T s3 ht2, xl, x4, fun tu H4 s4 ntu htu => ?_⟩
        obtain ⟨k2, l2, d2, dk, fl2, ll2⟩ := fx.dn
        refine ⟨tu, tn x.1 x.2, l2, k2, rfl, SqT.of htu, fx, d2, fun _ u2 p2 q2' H5 s5 hu2 hp2' => ?_, fun z => by omega⟩
        refine ⟨u2, _, 0, .ref p2, rfl, rfl, SqT.of hu2, rfl, ?_⟩
        have hd5 := s5 _ _ (s4 _ _ hd)
        have hlen := rows_len hR
        rw [List.length_map, List.length_take] at hlen
        refine ⟨_, hd5, by rw [List.length_map]; exact sz (by omega), frs ++ [p2], by rw [upd_same, map_snoc_ref], ?_, same_at (s3.trans (s4.trans s5)) hD⟩
        rw [List.take_succ_eq_append_getElem hi, List.map_append, ex2]
        refine rowsT_upd hd5 (rows_snoc (tp := true) (a := p2) (row := dwn (tn x.1 x.2)) ?_ (rows_same (s4.trans s5) hR))
        rw [dwn_eq fx d2]; exact hp2'
    · rintro H3 ⟨frs, hd, hR, s3⟩
      rw [List.length_map, hlr, List.take_length] at hR
      generalize hrows : xs.map (fun x => dwn (tn x.1 x.2)) = rows at hR
      have hrl : rows.length = xs.length := by rw [← hrows, List.length_map]
      have hr4 : ∀ row, row ∈ rows → row.length = 4 := by
        intro row hrow
        rw [← hrows] at hrow
        obtain ⟨x, hx, rfl⟩ := List.mem_map.mp hrow
        obtain ⟨_, _, fx, _⟩ := facts x hx
        obtain ⟨k2, l2, d2, _, fl2, _⟩ := fx.dn
        rw [dwn_eq fx d2]; exact fl2.len
      have hfl := rows_len hR
      refine ⟨_, rfl, D, rfl, ⟨_, SqL.of hd⟩, fun S hS => sc_it (walk_list (K := K) (a := D) (xs := frs.map V.ref)) (fun i H' => ∃ L : List (Addr × List Int), H' S = some (SetTO P w S L) ∧ (∀ p ∈ L, SqT K H' p.1 (p.2.map V.int)) ∧ (L.map (·.2)).Nodup ∧ (∀ x, x ∈ L.map (·.2) ↔ x ∈ (rows.take i).map srt) ∧ L.length ≤ i ∧ Same H3 H')
        ⟨[], upd_same, fun p hp => absurd hp List.not_mem_nil, List.nodup_nil, fun x => by simp, Nat.le_refl _, same_upd hS⟩ (fun i H' _ ⟨_, _, _, _, _, _, s⟩ => SqL.of (s _ _ hd)) ?_ ?_⟩
      · rintro i y H4 H5 hi ⟨L, hSL, hLT, hnd, hmem, hLl, s4⟩ ⟨rfl, e⟩
        rw [List.getElem?_map] at e
        rw [List.length_map] at hi
        cases er : frs[i]? with
        | none => rw [er] at e; cases e
        | some qa =>
          rw [er] at e
          cases e
          obtain ⟨row, erow, hrow⟩ := rows_get hR er
          obtain ⟨hi2, erow2⟩ := List.getElem?_eq_some_iff.mp erow
          refine ⟨rfl, _, rfl, qa, row, rfl, same_T s4 hrow, fun ns pl hperm hup npl => ?_⟩
          have ens := srt_of hperm hup
          refine ⟨pl, _, rfl, .inl ⟨SqL.of upd_same, fun pt npt => ?_⟩⟩
          have s5 := (same_upd npl (o := .lst (ns.map V.int))).trans (same_upd npt (o := .tup (ns.map V.int)))
          refine ⟨pt, ns, L, rfl, SqT.of upd_same, s5 _ _ hSL, fun p hp => same_T s5 (hLT p hp), by omega, fun L' c1 c2 => ?_⟩
          have hS5 := s5 _ _ hSL
          have up : ∀ {a : Addr} {zs : List V}, SqT K (upd (upd H5 pl (.lst (ns.map V.int))) pt (.tup (ns.map V.int))) a zs → SqT K (upd (upd (upd H5 pl (.lst (ns.map V.int))) pt (.tup (ns.map V.int))) S (SetTO P w S L')) a zs :=
            fun h => sqT_keep h hS5 (fun ys z => by cases z) (fun q v z => by cases z)
          have htk : (rows.take (i + 1)).map srt = (rows.take i).map srt ++ [srt row] := by
            rw [List.take_succ_eq_append_getElem hi2, List.map_append, erow2]; rfl
          by_cases hin : ns ∈ L.map (·.2)
          · have e1 := c1 hin
            subst e1
            refine ⟨L', upd_same, fun p hp => up (same_T s5 (hLT p hp)), hnd, fun x => ?_, by omega, same_at (s4.trans s5) hS⟩
            rw [htk, List.mem_append, hmem x, List.mem_singleton, ← ens]
            refine ⟨.inl, fun z => z.elim id fun z => ?_⟩
            rw [z]; exact (hmem ns).mp hin
          · have e1 := c2 hin
            have e2 : (L'.map (·.2)).Perm (ns :: L.map (·.2)) := e1.map (·.2)
            refine ⟨L', upd_same, fun p hp => up ?_, e2.nodup_iff.mpr (List.nodup_cons.mpr ⟨hin, hnd⟩), fun x => ?_, by rw [e1.length_eq, List.length_cons]; omega, same_at (s4.trans s5) hS⟩
            · rcases List.mem_cons.mp (e1.mem_iff.mp hp) with rfl | hp
              · exact SqT.of upd_same
              · exact same_T s5 (hLT p hp)
            · rw [e2.mem_iff, htk, List.mem_append, List.mem_cons, hmem x, List.mem_singleton, ← ens]
              exact ⟨fun z => z.elim .inr .inl, fun z => z.elim .inr .inl⟩
      · rintro H4 ⟨L, hSL, hLT, hnd, hmem, hLl, s4⟩
        rw [List.length_map] at hLl hmem
        rw [List.take_of_length_le (by omega)] at hmem
        refine ⟨S, L, rfl, hSL, hLT, fun p hp => ?_, by omega, fun refs' pl hR' npl => ?_⟩
        · have : p.2 ∈ rows.map srt := (hmem p.2).mp (List.mem_map_of_mem hp)
          obtain ⟨row, h1, h2⟩ := List.mem_map.mp this
          intro z
          have h3 := (srt_perm row).length_eq
          rw [h2, z, hr4 row h1] at h3
          cases h3
        · refine ⟨pl, _, rfl, .inl ⟨SqL.of upd_same, fun u4 nu4 => ?_⟩⟩
          have s5 := (same_upd npl (o := .lst (refs'.map V.ref))).trans (same_upd nu4 (o := .tup (refs'.map V.ref)))
          refine q2 hk u4 refs' (L.map Prod.snd) _ (sm12.trans (s3.trans (s4.trans s5))) upd_same (rows_same (K := K) (tp := true) (as := refs') (rows := (L.map Prod.snd).mergeSort rle) s5 hR') ⟨hnd, fun x => ?_⟩
          have hn0 : 0 < n := by omega
          rw [hmem x, ← outs_mem fr hn0]
          unfold outs
          rw [ddp_mem, ← hrows, List.map_map]
          exact (hpm.map _).mem_iff
end
end BS
namespace BS
open PySem PySem.Spec PyProof.Rows L2
theorem dt_mk {P : Program} {w : World} {H : Hp} {h : Heap} {a : Addr} {kvs : List (List Key × V)} {xs : List (List Key × Addr × Value)} (z : kvs.length ≤ sizeLine) (hd : (a == sysModules) = false) (rel : KT H kvs xs) (dd : h.DictOfH (tupleKind (mixKind P w)) a xs) : ObjOk P w H h a (.dT kvs) := by
  obtain ⟨q, es, ep, hq, h2, h3, h4, _, h5⟩ := dd
  exact ⟨z, hd, xs, rel, q, es, ep, hq, h2, h3, h4, h5⟩
section
variable {X : Cx}
/-- {k: v}, k a tuple; the new dict stands empty while the pair is made -/
def tDisp1T (tk tv : TE) : TE := fun σ H Q => ∀ p, H p = none → tk σ (upd H p (.dT [])) fun x H1 => tv σ H1 fun y H2 => H2 p = some (.dT []) ∧ ∃ (b : Addr) (k : List Key), x = .ref b ∧ H2 b = some (.tup (k.map kV)) ∧ Q (.ref p) (upd H2 p (.dT [(k, y)]))
theorem pe_disp1T {pos : Pos} {ke ve : Expr} {tk tv : TE} (hu : X.A.units + 1 < cLine) (hk : PE X ke tk) (hv : PE X ve tv) : PE X (.Dict [some ke] [ve] pos) (tDisp1T tk tv) := by
  refine ⟨fun pins s σ H Q I q => ?_⟩
  have hn := I.hok.fresh (Nat.le_refl s.heap.objs.size)
  have I1 := I.laid (a := s.heap.objs.size) (o := .dT []) (h' := s.heap.push { cls := .type "dict", data := .dict #[] }) (t' := s.toks) (fun _ _ q => Heap.get?_push_of_some _ q) (Nat.le_refl _) (dt_empty s.heap I.big)
  have hshape := zip_pairTrees [some ke] [ve] X.env pos rfl rfl
  have hlen : (pairTrees [some ke] [ve] X.env pos).length = 1 := pairTrees_length _ _ _ _ rfl rfl
  have h0 : pairTrees [some ke] [ve] X.env pos ≠ [] := fun z => by rw [z] at hlen; cases hlen
  rw [arm_eval_Dict, hshape, dictDisplay_pairs _ h0 (by rw [hlen]; decide)]
  refine wpAny_bind (wpAny_standAt (wpAny_bind (wpAny_subDictH (knd := tupleKind (mixKind X.prog X.w)) (Q := fun d s' => wpAny (model X.prog X.w) X.A (pure (Value.ref d)) (EP X pins σ Q) X.xe s') (by show X.A.units < cLine; omega) (by rw [hlen]; decide) ?_)))
  refine pairTrees_cons_walk (thn (hk.run pins _ σ _ _ I1 (q _ hn)) fun kx s2 ⟨x, H2, I2, rx, q2⟩ => thn (hv.run pins s2 σ H2 _ I2 q2) fun vx s3 ⟨y, H3, I3, ry, e, b, k, ex, hb, q3⟩ => pairTrees_nil_walk ?_)
  subst ex
  obtain rfl : kx = Value.ref b := rx
  obtain ⟨z, hd, xs0, r0, dd⟩ := dt_of I3.hok e
  cases r0
  refine ⟨[(k, b, vx)], ⟨rfl, rfl, key_of I3.hok hb, trivial⟩, dd, fun h' tk' dd' hs => wpAny_pure ⟨.ref s.heap.objs.size, _, ?_, rfl, q3⟩⟩
  have dd2 : h'.DictOfH (tupleKind (mixKind X.prog X.w)) s.heap.objs.size [(k, b, vx)] := dd'
  have he : ∃ q, h'.get? s.heap.objs.size = some q := let ⟨q, _, _, hq, _⟩ := dd2; ⟨q, hq⟩
  refine d_write I3 (by rw [e]; exact True.intro) hs he (dt_mk (by show 1 ≤ sizeLine; rw [sizeLine_eq]; decide) hd (.cons ⟨rfl, ?_, ry⟩ .nil) dd2)
  rw [upd_ne (ne_of hb e (fun z => nomatch z))]
  exact hb
/-! ### dict of a list of pairs with tuple keys -/
def mergeT (kvs more : List (List Key × V)) : List (List Key × V) := more.foldl (fun acc kv => putK acc kv.1 kv.2) kvs
theorem length_mergeT : ∀ (more kvs : List (List Key × V)), (mergeT kvs more).length ≤ kvs.length + more.length
  | [], kvs => by show kvs.length ≤ kvs.length + 0; omega
  | p :: r, kvs => by
    have h1 := length_mergeT r (putK kvs p.1 p.2)
    have h2 := length_putK kvs p.1 p.2
    show (mergeT (putK kvs p.1 p.2) r).length ≤ _
    rw [List.length_cons]; omega
structure En (H : Hp) (K : PySem.W.Frag) (p : Addr) (kv : List Key × V) : Prop where
  ex : ∃ b, SqT K H p [.ref b, kv.2] ∧ H b = some (.tup (kv.1.map kV))
theorem kt_merge {H : Hp} : ∀ {more : List (List Key × V)} {ps : List (List Key × Addr × Value)} {kvs : List (List Key × V)} {xs : List (List Key × Addr × Value)}, KT H more ps → KT H kvs xs → KT H (mergeT kvs more) (storedAllH xs ps) := by
  intro more ps kvs xs r
  induction r generalizing kvs xs with
  | nil => intro q; exact q
  | @cons p q ps qs h t ih =>
    intro r0
    obtain ⟨h1, h2, h3⟩ := h
    have := r0.put p.1 h2 h3
    rw [show storedH xs p.1 q.2.1 q.2.2 = storedH xs q.1 q.2.1 q.2.2 from by rw [h1]] at this
    exact ih this
theorem ens_of {pins : List (Addr × Obj)} {σ : L2.St} {H : Hp} {s : Shared} (I : Inv X pins σ H s) : ∀ {ps : List Addr} {kvs : List (List Key × V)}, Paired (fun p kv => En H X.K p kv) ps kvs →
    ∃ prs : List (List Key × Addr × Value), KT H kvs prs ∧ prs.length = ps.length ∧ ∀ (j : Nat) (q : List Key × Addr × Value), prs[j]? = some q → ∃ T, ps[j]? = some T ∧ s.heap.IsTuple T #[.ref q.2.1, q.2.2]
  | _, _, .nil => ⟨[], .nil, rfl, fun j q e => by simp at e⟩
  | _, _, .cons (a := p) (b := kv) ⟨b, h, hb⟩ t => by
    obtain ⟨prs, r, hl, hp⟩ := ens_of I t
    obtain ⟨its, rv, ht, _⟩ := I.tuple h
    obtain ⟨u, y, ei, ru, ry⟩ := vals2 rv
    subst ei
    obtain rfl : u = Value.ref b := ru
    refine ⟨(kv.1, b, y) :: prs, .cons ⟨rfl, hb, ry⟩ r, by rw [List.length_cons, List.length_cons, hl], fun j q e => ?_⟩
    cases j with
    | zero =>
      have e' : (kv.1, b, y) = q := Option.some.inj e
      subst e'
      obtain ⟨o, ho, hc, n, hd⟩ := ht
      exact ⟨p, rfl, ⟨o, ho, hc, n, hd⟩⟩
    | succ j =>
      obtain ⟨T, e1, e2⟩ := hp j q (by simpa using e)
      exact ⟨T, by simpa using e1, e2⟩
def prV (q : List Key × Addr × Value) : Value × Value := (Value.ref q.2.1, q.2.2)
def rDictT (K : PySem.W.Frag) : List V → Hp → VK → Prop := fun xs H Q => ∃ (a : Addr) (ps : List Addr) (kvs : List (List Key × V)), xs = [.ref a] ∧ SqL K H a (ps.map V.ref) ∧ Paired (fun p kv => En H K p kv) ps kvs ∧
  ∀ p, H p = none → Q (.ref p) (upd H p (.dT (mergeT [] kvs)))
theorem cr_dictT {k : Nat} (hr : Room k X.A) : CallR X (.type "dict") (rDictT X.K) := by
  intro pins s σ H xs us Q I r q
  obtain ⟨a, ps, kvs, ex, hq, hp, q⟩ := q
  subst ex
  obtain ⟨u, eu, rx⟩ := vals1 r
  subst eu
  cases rx
  obtain ⟨its, rv, pl, hz⟩ := I.list hq
  have ei := refs_at rv
  subst ei
  rw [List.length_map] at hz
  obtain ⟨prs, rel, hl, hpr⟩ := ens_of I hp
  obtain ⟨o, n, ho, hc, hd, hdat⟩ := pl
  have hm : (s.heap.objs.size == sysModules) = false := beq_eq_false_iff_ne.mpr (Nat.ne_of_gt I.big)
  have hlen : (mergeT [] kvs).length ≤ sizeLine := by
    refine Nat.le_trans (length_mergeT kvs []) ?_
    rw [List.length_nil, Nat.zero_add, Paired.length rel, hl]
    exact hz
  have hun := hr.un
  have ee : ∀ (j : Nat) (k v : Value), (prs.map prV)[j]? = some (k, v) → ∃ q : List Key × Addr × Value, prs[j]? = some q ∧ k = Value.ref q.2.1 ∧ v = q.2.2 := by
    intro j k v e
    rw [List.getElem?_map] at e
    cases e2 : prs[j]? with
    | none => rw [e2] at e; cases e
    | some q =>
      rw [e2] at e
      injection e with e
      injection e with e3 e4
      exact ⟨q, rfl, e3.symm, e4.symm⟩
  refine call_dict_pairsH (knd := tupleKind (mixKind X.prog X.w)) (ps := prs) (PairArg.list a (ps.map Value.ref).toArray (fun j => ps.getD j 0) (prs.map prV)) hr.hd (by show X.A.in1.in1.units < cLine; show X.A.units + 1 + 1 < cLine; omega)
    ⟨⟨o, n, ho, hc, hd, hdat⟩, by simp [hl], fun j k v e => ?_⟩ ⟨by rw [List.length_map], fun i key v e => ?_⟩ (fun h' hk x hx => ?_) (by rw [List.length_map, hl]; exact hz) fun h' tk hd' k => ?_
  · obtain ⟨q', e2, e3, e4⟩ := ee j k v e
    obtain ⟨T, e5, e6⟩ := hpr j q' e2
    subst e3 e4
    refine ⟨by simp [e5, List.getD_eq_getElem?_getD], .inl ?_⟩
    have eT : ps.getD j 0 = T := by rw [List.getD_eq_getElem?_getD, e5]; rfl
    show s.heap.IsTuple (ps.getD j 0) _
    rw [eT]
    exact e6
  · obtain ⟨q', e2, e3, e4⟩ := ee i key v e
    exact ⟨q'.1, q'.2.1, by rw [e2, e4], e3⟩
  · have all : ∀ {l : List (List Key × V)} {m : List (List Key × Addr × Value)}, KT H l m → ∀ x ∈ m, (tupleKind (mixKind X.prog X.w)).is h' x.1 x.2.1 := by
      intro l m q0
      induction q0 with
      | nil => intro x hx; exact nomatch hx
      | @cons p q ps qs hq t ih =>
        intro x hx
        rcases List.mem_cons.mp hx with e | hx
        · subst e
          obtain ⟨o', its, n', h1, h2, h3, h4⟩ := key_of (P := X.prog) (w := X.w) I.hok (show H x.2.1 = some (.tup (x.1.map kV)) from hq.1 ▸ hq.2.1)
          exact ⟨o', its, n', hk _ _ (Nat.ne_of_lt (Heap.lt_size h1)) (fun z => nomatch z) h1, h2, h3, h4⟩
        · exact ih x hx
    exact all rel x hx
  · exact ⟨.ref s.heap.objs.size, upd H s.heap.objs.size (.dT (mergeT [] kvs)), I.laid (t' := tk) (fun b o e => k b o (fun z => nomatch z) e) (Nat.le_refl _) (dt_mk hlen hm ((kt_merge rel .nil).keeps fun b ys e => by rw [upd_ne (ne_of_none e (I.hok.fresh (Nat.le_refl _)))]; exact e) hd'), rfl, q _ (I.hok.fresh (Nat.le_refl _))⟩
end
end BS
namespace BS
open PySem PySem.Spec PyProof.Rows L2
/-! ### the plain law of the going through all fours -/
theorem nd_len {α : Type} [DecidableEq α] : ∀ {l m : List α}, l.Nodup → (∀ x, x ∈ l → x ∈ m) → l.length ≤ m.length
  | [], m, _, _ => Nat.zero_le _
  | x :: r, m, nd, h => by
    obtain ⟨h1, h2⟩ := List.nodup_cons.mp nd
    have hx := h x (List.mem_cons_self ..)
    have := nd_len (l := r) (m := m.erase x) h2 (fun y hy => (List.mem_erase_of_ne (show y ≠ x from fun z => h1 (z ▸ hy))).mpr (h y (List.mem_cons_of_mem _ hy)))
    rw [List.length_erase_of_mem hx] at this
    have hp : 0 < m.length := List.length_pos_of_mem hx
    rw [List.length_cons]
    omega
/-- behind a four's going through: what it puts into seen and found -/
structure ClosedAt (v : Int) (seen fr : List (List Int)) (b : List Int) (n m : Nat) : Prop where
  nb : ∀ p, p < n → ex b.sum (b.getD p 0) ≤ v → sw b p ∈ seen
  fd : ∀ p, p < m → b.getD p 0 = v → srt (dwn (tn b p)) ∈ fr
theorem ClosedAt.more {v : Int} {seen seen' fr fr' : List (List Int)} {b : List Int} {n m : Nat} (h : ClosedAt v seen fr b n m) (h1 : ∀ x, x ∈ seen → x ∈ seen') (h2 : ∀ x, x ∈ fr → x ∈ fr') : ClosedAt v seen' fr' b n m :=
  ⟨fun p hp u => h1 _ (h.nb p hp u), fun p hp u => h2 _ (h.fd p hp u)⟩
structure Dfs (v : Int) (r : List Int) (fr ls dn seen : List (List Int)) : Prop where
  nd : seen.Nodup
  root : r ∈ seen
  tr : ∀ b, b ∈ seen → Tr v r b
  perm : seen.Perm (dn ++ ls)
  cl : ∀ b, b ∈ dn → ClosedAt v seen fr b 4 4
  ok : ∀ x, x ∈ fr → ∃ l, ResA v r l ∧ srt l = x
theorem Dfs.few {v : Int} {r : List Int} {fr ls dn seen : List (List Int)} (h : Dfs v r fr ls dn seen) (f : IsF r) : seen.length ≤ 1 + (T v r).length := by
  have h1 := nd_len h.nd (m := r :: (T v r).map Prod.fst) (fun b hb => by
    obtain ⟨_, h2⟩ := (h.tr b hb).mem f.len
    rcases h2 with rfl | ⟨p, hp⟩
    · exact List.mem_cons_self ..
    · exact List.mem_cons_of_mem _ (List.mem_map.mpr ⟨_, hp, rfl⟩))
  rw [List.length_cons, List.length_map] at h1
  omega
theorem Dfs.all {v : Int} {r : List Int} {fr dn seen : List (List Int)} (h : Dfs v r fr [] dn seen) : ∀ {b : List Int}, Tr v r b → b ∈ seen := by
  intro b hb
  induction hb with
  | root => exact h.root
  | @step c p hc hp u ih =>
    have hd : c ∈ dn := by have := h.perm.mem_iff.mp ih; rwa [List.append_nil] at this
    exact (h.cl c hd).nb p hp u.2
theorem Dfs.tells {v : Int} {r : List Int} {fr dn seen : List (List Int)} (h : Dfs v r fr [] dn seen) (f : IsF r) (hv : 0 < v) (x : List Int) : x ∈ fr ↔ ∃ l, ResA v r l ∧ srt l = x := by
  refine ⟨h.ok x, ?_⟩
  rintro ⟨l, ⟨b, p, k, hb, hp, e, d⟩, rfl⟩
  have hs := h.all hb
  have hd : b ∈ dn := by have := h.perm.mem_iff.mp hs; rwa [List.append_nil] at this
  have hq := (h.cl b hd).fd p hp e
  have fb := hb.isF f
  rw [dwn_eq (isF_tn fb hp (by have := fb.pos; omega)) d] at hq
  exact hq
theorem ResA.isF {v : Int} {r l : List Int} (h : ResA v r l) (f : IsF r) (hv : 0 < v) : IsF l := by
  obtain ⟨b, p, k, hb, hp, e, d⟩ := h
  have fb := hb.isF f
  exact (d.isF (isF_tn fb hp (by have := fb.pos; omega))).1
/-- in the midst of a four b -/
structure DfsIn (v : Int) (r : List Int) (fr ls dn seen : List (List Int)) (b : List Int) (n m : Nat) : Prop where
  nd : seen.Nodup
  root : r ∈ seen
  tr : ∀ b, b ∈ seen → Tr v r b
  perm : seen.Perm (dn ++ (b :: ls))
  cl : ∀ b, b ∈ dn → ClosedAt v seen fr b 4 4
  cur : ClosedAt v seen fr b n m
  ok : ∀ x, x ∈ fr → ∃ l, ResA v r l ∧ srt l = x
theorem Dfs.pop {v : Int} {r : List Int} {fr ls dn seen : List (List Int)} {b : List Int} (h : Dfs v r fr (ls ++ [b]) dn seen) : DfsIn v r fr ls dn seen b 0 0 :=
  ⟨h.nd, h.root, h.tr, h.perm.trans ((List.Perm.refl dn).append List.perm_append_comm), h.cl, ⟨fun p hp => absurd hp (Nat.not_lt_zero _), fun p hp => absurd hp (Nat.not_lt_zero _)⟩, h.ok⟩
theorem DfsIn.fin {v : Int} {r : List Int} {fr ls dn seen : List (List Int)} {b : List Int} (h : DfsIn v r fr ls dn seen b 4 4) : Dfs v r fr ls (dn ++ [b]) seen :=
  ⟨h.nd, h.root, h.tr, by rw [List.append_assoc]; exact h.perm, fun c hc => (List.mem_append.mp hc).elim (h.cl c) (fun z => by rw [List.mem_singleton.mp z]; exact h.cur), h.ok⟩
theorem DfsIn.mem {v : Int} {r : List Int} {fr ls dn seen : List (List Int)} {b : List Int} {n m : Nat} (h : DfsIn v r fr ls dn seen b n m) : b ∈ seen := h.perm.mem_iff.mpr (by simp)
theorem DfsIn.found {v : Int} {r : List Int} {fr ls dn seen : List (List Int)} {b : List Int} {n m : Nat} (h : DfsIn v r fr ls dn seen b n m) (f : IsF r) (hv : 0 < v) (hm : m < 4) (e : b.getD m 0 = v) : DfsIn v r (fr ++ [srt (dwn (tn b m))]) ls dn seen b n (m + 1) := by
  have up : ∀ x, x ∈ fr → x ∈ fr ++ [srt (dwn (tn b m))] := fun x hx => List.mem_append_left _ hx
  refine ⟨h.nd, h.root, h.tr, h.perm, fun c hc => (h.cl c hc).more (fun _ z => z) up, ⟨fun p hp u => h.cur.nb p hp u, fun p hp u => ?_⟩, fun x hx => ?_⟩
  · rcases Nat.lt_succ_iff_lt_or_eq.mp hp with z | z
    · exact up _ (h.cur.fd p z u)
    · subst z; simp
  · rcases List.mem_append.mp hx with hx | hx
    · exact h.ok x hx
    · have tb := h.tr b h.mem
      have fb := tb.isF f
      have ft := isF_tn fb hm (by have := fb.pos; omega)
      obtain ⟨k, l, d, _⟩ := ft.dn
      refine ⟨l, ⟨b, m, k, tb, hm, e, d⟩, ?_⟩
      rw [List.mem_singleton.mp hx, dwn_eq ft d]
theorem DfsIn.skip {v : Int} {r : List Int} {fr ls dn seen : List (List Int)} {b : List Int} {n m : Nat} (h : DfsIn v r fr ls dn seen b n m) (e : b.getD m 0 ≠ v) : DfsIn v r fr ls dn seen b n (m + 1) :=
  ⟨h.nd, h.root, h.tr, h.perm, h.cl, ⟨h.cur.nb, fun p hp u => (Nat.lt_succ_iff_lt_or_eq.mp hp).elim (fun z => h.cur.fd p z u) (fun z => absurd (z ▸ u) e)⟩, h.ok⟩
theorem DfsIn.put {v : Int} {r : List Int} {fr ls dn seen : List (List Int)} {b : List Int} {n m : Nat} (h : DfsIn v r fr ls dn seen b n m) (f : IsF r) (l : lowP r = none) (hn : n < 4) (u : ex b.sum (b.getD n 0) ≤ v) (hs : sw b n ∉ seen) :
    DfsIn v r fr (ls ++ [sw b n]) dn (seen ++ [sw b n]) b (n + 1) m := by
  have up : ∀ x, x ∈ seen → x ∈ seen ++ [sw b n] := fun x hx => List.mem_append_left _ hx
  refine ⟨List.nodup_append.mpr ⟨h.nd, List.nodup_cons.mpr ⟨List.not_mem_nil, List.nodup_nil⟩, fun a ha c hc z => hs (by rw [← List.mem_singleton.mp hc, ← z]; exact ha)⟩, up _ h.root, fun c hc => ?_, ?_, fun c hc => (h.cl c hc).more up (fun _ z => z), ⟨fun p hp w => ?_, h.cur.fd⟩, h.ok⟩
  · rcases List.mem_append.mp hc with hc | hc
    · exact h.tr c hc
    · rw [List.mem_singleton.mp hc]; exact (h.tr b h.mem).closed f l hn u
  · refine (h.perm.append_right [sw b n]).trans ?_
    rw [List.append_assoc, List.cons_append]
  · rcases Nat.lt_succ_iff_lt_or_eq.mp hp with z | z
    · exact up _ (h.cur.nb p z w)
    · subst z; simp
theorem DfsIn.past {v : Int} {r : List Int} {fr ls dn seen : List (List Int)} {b : List Int} {n m : Nat} (h : DfsIn v r fr ls dn seen b n m) (u : ex b.sum (b.getD n 0) ≤ v → sw b n ∈ seen) : DfsIn v r fr ls dn seen b (n + 1) m :=
  ⟨h.nd, h.root, h.tr, h.perm, h.cl, ⟨fun p hp w => (Nat.lt_succ_iff_lt_or_eq.mp hp).elim (fun z => h.cur.nb p z w) (fun z => by subst z; exact u w), h.cur.fd⟩, h.ok⟩
/-! ### keys -/
def keyL (row : List Int) : List Key := row.map Sum.inl
theorem keyL_map (row : List Int) : (keyL row).map kV = row.map V.int := by unfold keyL; rw [List.map_map]; rfl
theorem keyL_inj {a b : List Int} (h : keyL a = keyL b) : a = b := by
  unfold keyL at h
  exact List.map_inj_right (fun x y z => by injection z) |>.mp h
def en (row : List Int) : List Key × V := (keyL row, .bl true)
theorem val_in {seen : List (List Int)} {row : List Int} (h : row ∈ seen) : valV (seen.map en) (keyL row) = some (.bl true) := by
  induction seen with
  | nil => exact absurd h List.not_mem_nil
  | cons x r ih =>
    by_cases c : x = row
    · rw [c, List.map_cons]; exact valV_pos (p := en row) rfl
    · rw [List.map_cons, valV_neg (p := en x) (fun z => c (keyL_inj z))]
      exact ih ((List.mem_cons.mp h).resolve_left (fun z => c z.symm))
theorem val_out {seen : List (List Int)} {row : List Int} (h : row ∉ seen) : valV (seen.map en) (keyL row) = none := by
  induction seen with
  | nil => rfl
  | cons x r ih =>
    rw [List.map_cons, valV_neg (p := en x) (fun z => h (by rw [keyL_inj z]; exact List.mem_cons_self ..))]
    exact ih (fun z => h (List.mem_cons_of_mem _ z))
theorem put_out {seen : List (List Int)} {row : List Int} (h : row ∉ seen) : putK (seen.map en) (keyL row) (.bl true) = (seen ++ [row]).map en := by
  rw [putK_new _ (val_out h), List.map_append]; rfl
theorem put_in {seen : List (List Int)} {row : List Int} (h : row ∈ seen) : putK (seen.map en) (keyL row) (.bl true) = seen.map en := by
  unfold putK
  have a : ((seen.map en).any fun kv => decide (kv.1 = keyL row)) = true := by rw [valV_any, val_in h]; rfl
  rw [if_pos a, List.map_map]
  refine List.map_congr_left (fun x _ => ?_)
  show (if (en x).1 = keyL row then ((en x).1, V.bl true) else en x) = en x
  split <;> rfl
theorem merge_en : ∀ (fr seen : List (List Int)), seen.Nodup → ∃ L : List (List Int), mergeT (seen.map en) (fr.map en) = L.map en ∧ L.Nodup ∧ ∀ x, x ∈ L ↔ x ∈ seen ∨ x ∈ fr
  | [], seen, nd => ⟨seen, rfl, nd, fun x => by simp⟩
  | y :: r, seen, nd => by
    by_cases c : y ∈ seen
    · obtain ⟨L, h1, h2, h3⟩ := merge_en r seen nd
      refine ⟨L, ?_, h2, fun x => ?_⟩
      · rw [← h1]
        show mergeT (putK (seen.map en) (keyL y) (.bl true)) (r.map en) = _
        rw [put_in c]
      · rw [h3, List.mem_cons]
        constructor
        · rintro (h | h)
          · exact .inl h
          · exact .inr (.inr h)
        · rintro (h | rfl | h)
          · exact .inl h
          · exact .inl c
          · exact .inr h
    · obtain ⟨L, h1, h2, h3⟩ := merge_en r (seen ++ [y]) (List.nodup_append.mpr ⟨nd, List.nodup_cons.mpr ⟨List.not_mem_nil, List.nodup_nil⟩, fun a ha b hb z => c (by rw [← List.mem_singleton.mp hb, ← z]; exact ha)⟩)
      refine ⟨L, ?_, h2, fun x => ?_⟩
      · rw [← h1]
        show mergeT (putK (seen.map en) (keyL y) (.bl true)) (r.map en) = _
        rw [put_out c]
      · rw [h3, List.mem_append, List.mem_singleton, List.mem_cons, or_assoc]
/-- what is made is locked for good -/
def tFrz (t : TE) : TE := fun σ H Q => t σ H fun x H1 => ∃ d u, x = .ref d ∧ H1 d = some u ∧ Mut (some u) ∧ ∀ od, Q x (upd H1 d (.frz od u))
theorem pe_frz {X : Cx} {e : Expr} {t : TE} (h : PE X e t) : PE X e (tFrz t) := by
  refine ⟨fun pins s σ H Q I hw => ?_⟩
  refine thn (h.run pins s σ _ _ I hw) fun v s1 ⟨x, H1, I1, r, d, u, ex, hd, mu, q⟩ => ?_
  obtain ⟨od, I2⟩ := I1.lock hd mu
  exact ⟨x, _, I2, r, q od⟩
end BS
namespace BS
open PySem PySem.Spec PyProof.Rows L2
/-- a row that is a list, and a list of objects that is written -/
theorem rowL_upd {K : PySem.W.Frag} {H : Hp} {f a : Addr} {row : List Int} {refs : List Addr} {o : HO} (h : RowAt K false H a row) (n : row ≠ []) (e : H f = some (.lst (refs.map V.ref))) : RowAt K false (upd H f o) a row := by
  rcases h with (h | ⟨z, h⟩) | h
  · refine .inl (.inl ?_)
    rw [upd_ne (ne_of h e (fun z => ?_))]
    · exact h
    · injection z with z
      cases row with
      | nil => exact n rfl
      | cons x r => cases refs with
        | nil => cases z
        | cons y s => injection z with h1 h2; cases h1
  · refine .inl (.inr ⟨z, ?_⟩)
    rw [upd_ne (ne_of h e (fun z => nomatch z))]
    exact h
  · exact .inr h
theorem rowsL_upd {K : PySem.W.Frag} {H : Hp} {f : Addr} {refs0 : List Addr} {o : HO} (e : H f = some (.lst (refs0.map V.ref))) : ∀ {refs : List Addr} {rows : List (List Int)}, RowsAt K false H refs rows → (∀ row, row ∈ rows → row ≠ []) → RowsAt K false (upd H f o) refs rows
  | [], _, .nil, _ => .nil
  | _ :: _, _, .cons h t, n => .cons (rowL_upd h (n _ (List.mem_cons_self ..)) e) (rowsL_upd e t (fun r hr => n r (List.mem_cons_of_mem _ hr)))
theorem rowL_updD {K : PySem.W.Frag} {H : Hp} {d a : Addr} {row : List Int} {kvs : List (List Key × V)} {o : HO} (h : RowAt K false H a row) (e : H d = some (.dT kvs)) : RowAt K false (upd H d o) a row := by
  rcases h with (h | ⟨z, h⟩) | h
  · exact .inl (.inl (by rw [upd_ne (ne_of h e (fun z => nomatch z))]; exact h))
  · exact .inl (.inr ⟨z, by rw [upd_ne (ne_of h e (fun z => nomatch z))]; exact h⟩)
  · exact .inr h
theorem rowsL_updD {K : PySem.W.Frag} {H : Hp} {d : Addr} {kvs : List (List Key × V)} {o : HO} (e : H d = some (.dT kvs)) : ∀ {refs : List Addr} {rows : List (List Int)}, RowsAt K false H refs rows → RowsAt K false (upd H d o) refs rows
  | [], _, .nil => .nil
  | _ :: _, _, .cons h t => .cons (rowL_updD h e) (rowsL_updD e t)
theorem rowsF_split {K : PySem.W.Frag} {H : Hp} {as : List Addr} {ls : List (List Int)} (h : RowsAt K false H as ls) (n : as ≠ []) : ∃ as' a ls' s, as = as' ++ [a] ∧ ls = ls' ++ [s] ∧ RowsAt K false H as' ls' ∧ RowAt K false H a s := rows_split h n
theorem En.same {K : PySem.W.Frag} {H H' : Hp} {p : Addr} {kv : List Key × V} (s : Same H H') (h : En H K p kv) : En H' K p kv := by
  obtain ⟨b, h1, h2⟩ := h.ex; exact ⟨b, same_T s h1, s _ _ h2⟩
theorem ens_same {K : PySem.W.Frag} {H H' : Hp} (s : Same H H') : ∀ {as : List Addr} {kvs : List (List Key × V)}, Paired (fun p kv => En H K p kv) as kvs → Paired (fun p kv => En H' K p kv) as kvs
  | [], _, .nil => .nil
  | _ :: _, _, .cons h t => .cons (h.same s) (ens_same s t)
theorem ens_snoc {K : PySem.W.Frag} {H : Hp} {a : Addr} {kv : List Key × V} (h1 : En H K a kv) : ∀ {as : List Addr} {kvs : List (List Key × V)}, Paired (fun p kv => En H K p kv) as kvs → Paired (fun p kv => En H K p kv) (as ++ [a]) (kvs ++ [kv])
  | [], _, .nil => .cons h1 .nil
  | _ :: _, _, .cons h t => .cons h (ens_snoc h1 t)
theorem ens_upd {K : PySem.W.Frag} {H : Hp} {D : Addr} {ys : List V} {o : HO} (e : H D = some (.lst ys)) : ∀ {as : List Addr} {kvs : List (List Key × V)}, Paired (fun p kv => En H K p kv) as kvs → Paired (fun p kv => En (upd H D o) K p kv) as kvs
  | [], _, .nil => .nil
  | _ :: _, _, .cons ⟨b, h1, h2⟩ r => .cons ⟨b, sqT_upd h1 e, by rw [upd_ne (ne_of h2 e (fun z => nomatch z))]; exact h2⟩ (ens_upd e r)
theorem DfsIn.few {v : Int} {r : List Int} {fr ls dn seen : List (List Int)} {b : List Int} {n m : Nat} (h : DfsIn v r fr ls dn seen b n m) (f : IsF r) : seen.length ≤ 1 + (T v r).length := by
  have h1 := nd_len h.nd (m := r :: (T v r).map Prod.fst) (fun b hb => by
    obtain ⟨_, h2⟩ := (h.tr b hb).mem f.len
    rcases h2 with rfl | ⟨p, hp⟩
    · exact List.mem_cons_self ..
    · exact List.mem_cons_of_mem _ (List.mem_map.mpr ⟨_, hp, rfl⟩))
  rw [List.length_cons, List.length_map] at h1
  omega
theorem DfsIn.len4 {v : Int} {r : List Int} {fr ls dn seen : List (List Int)} {b : List Int} {n m : Nat} (h : DfsIn v r fr ls dn seen b n m) (f : IsF r) (hv : 0 < v) {x : List Int} (hx : x ∈ fr) : x.length = 4 := by
  obtain ⟨l, hl, rfl⟩ := h.ok x hx
  exact (srt_perm l).length_eq.trans (hl.isF f hv).len
def spLOut (K : PySem.W.Frag) : Sp := fun vs H Q _ => ∃ (t : Addr) (b r : List Int) (k : Nat) (v : Int), vs = [.ref t, .int v] ∧ SqL K H t (b.map V.int) ∧ IsF b ∧ Dn b k r ∧ k < 2000 ∧ Low r ∧ 1 ≤ v ∧ v ≤ 60 ∧
  ∀ (l : Addr) (refs : List Addr) (R : List (List Int)) (H' : Hp), Same H H' → H' l = some (.lst (refs.map V.ref)) → RowsAt K true H' refs (R.mergeSort rle) → Tells v r R → Q (.ref l) H'
abbrev nLOut : List Str := ["_law_bends", "_law_wanted", "_law_low", "_law_found", "_law_left", "_law_seen", "_law_turn", "_law_some", "_law_place", "_law_other", "_law_key"]
section
variable {P : Program} {w : World} {K : PySem.W.Frag} {mg : Str → Option Value} {base : Heap}
theorem scLOut : FnScope nLOut ["_law_bends", "_law_wanted"] (defScope sLOut) := ⟨rfl, rfl, rfl, by decide +kernel, rfl, by decide +kernel, by decide +kernel⟩
theorem ok_lout {f : Addr} {fd : FuncData} (Fu : Fun K "_law_out" "_law_out" sLOut f fd) (B : Blt mg) (cD : Cal P w K mg base CX0 2 "_law_down" ["_law_bends"] (spLDown K)) (cT : Cal P w K mg base CX0 1 "_law_turned" ["_law_bends", "_law_place"] (spLTurn K))
    (cS : Cal P w K mg base CX0 1 "_law_swapped" ["_law_bends", "_law_place"] (spSwap K)) : FnOk P w K mg base CX0 3 f fd ["_law_bends", "_law_wanted"] (spLOut K) := by
  obtain ⟨fD, fdD, mD, kD, bD, GD⟩ := cD
  obtain ⟨fT, fdT, mT, kT, bT, GT⟩ := cT
  obtain ⟨fS, fdS, mS, kS, bS, GS⟩ := cS
  refine Fu.ok scLOut (fun vs H Q E h => ?_) (fun cdv A outer s H vs Q E hr h => ?_)
  · obtain ⟨t, b, r, k, v, rfl, _⟩ := h
    rfl
  · obtain ⟨t, b, r, k, v, rfl, ht, fb, dnb, hk, lo, v1, v60, q⟩ := h
    have hr1 : Room 1 _ := hr.mono (by decide)
    have hu := hu_of hr
    refine ⟨_, pss_cons (ps_set (i := 2) scLOut.nd rfl (Or.inl rfl) (pe_ix ix_tup (pe_call GD hr rfl mD kD bD .nil pass0 (pa_cons (pv 0) pa_nil)) pe_int (fun _ _ => rfl)))
      (pss_cons (ps_par3 (i := 3) (j := 4) (l := 5) rfl scLOut.nd rfl rfl rfl (by decide) (by decide) (by decide) rfl rfl rfl (pa_cons (pe_lst pa_nil) (pa_cons (pe_lst (pa_cons (pv 2) pa_nil)) (pa_cons (pe_disp1T hu (pe_callTy call_tuple_of (by rfl) B.tuple (by decide +kernel) (pa_cons (pv 2) pa_nil)) pe_bl) pa_nil))) (by rfl))
      (pss_cons (ps_for PassesOwn.never rfl (pi_range1 rfl B.range (pa_cons pe_int pa_nil)) (pg_name (i := 6) scLOut.nd rfl (Or.inl rfl))
        (pss_cons (ps_if (pt_cmpR (op_eqD hr.units) (pv 4) (pe_lst pa_nil) (nomark _)) (pss_one (ps_ret (pe_callB (cr_sortRows (tp := true) hr) (by rfl) B.sorted (by decide +kernel) (pa_cons (pe_lc (own := [("_law_key", 10)]) (g := gName 10) (tt := tYes) rfl scLOut.nd (pi_keys (pe_frz (pe_callTy (cr_dictT hr) (by rfl) B.dict (by decide +kernel) (pa_cons (pe_lc (own := [("_law_some", 7)]) (g := gName 7) (tt := tYes) rfl scLOut.nd (pi_list (pv 3)) (blkOk_by (N := nLOut) (sc := defScope sLOut) (by decide +kernel)) (fun _ _ _ _ _ => pg_name (i := 7) scLOut.nd rfl (Or.inl rfl)) (fun _ _ _ _ _ => pts_nil) (fun _ _ _ _ _ => pe_tup (pa_cons (pe_callTy (tupOf (K := K) rfl) (by rfl) B.tuple (by decide +kernel) (pa_cons (pv 7) pa_nil)) (pa_cons pe_bl pa_nil)))) pa_nil)))) (blkOk_by (N := nLOut) (sc := defScope sLOut) (by decide +kernel)) (fun _ _ _ _ _ => pg_name (i := 10) scLOut.nd rfl (Or.inl rfl)) (fun _ _ _ _ _ => pts_nil) (fun _ _ _ _ _ => pv 10)) pa_nil)))) pss_nil)
        (pss_cons (ps_set (i := 7) scLOut.nd rfl (Or.inl rfl) (pe_bm0 PySem.F.plainAttrs_list PySem.F.slot_list_pop PySem.F.type_list_pop mt_pop (pv 4)))
        (pss_one (ps_for PassesOwn.never rfl (pi_range1 rfl B.range (pa_cons pe_int pa_nil)) (pg_name (i := 8) scLOut.nd rfl (Or.inl rfl))
          (pss_cons (ps_if (pt_cmpR op_eq (pe_ix ix_list (pv 7) (pv 8) (fun _ _ => rfl)) (pv 1) (nomark _)) (pss_one (ps_expr (pe_bm PySem.F.plainAttrs_list PySem.F.slot_list_append PySem.F.type_list_append mt_append (pv 3) (pa_cons (pe_callB cr_sorted (by rfl) B.sorted (by decide +kernel) (pa_cons (pe_ix ix_tup (pe_call GD hr rfl mD kD bD .nil pass0 (pa_cons (pe_call GT hr1 rfl mT kT bT .nil pass0 (pa_cons (pv 7) (pa_cons (pv 8) pa_nil))) pa_nil)) pe_int (fun _ _ => rfl)) pa_nil)) pa_nil)))) pss_nil)
          (pss_cons (ps_set (i := 9) scLOut.nd rfl (Or.inl rfl) (pe_call GS hr1 rfl mS kS bS .nil pass0 (pa_cons (pv 7) (pa_cons (pv 8) pa_nil))))
          (pss_one (ps_if (PW.pt (pw_and (pt_cmpR op_le (pe_ix ix_list (pv 9) (pv 8) (fun _ _ => rfl)) (pv 1) (nomark _)) (pw_and1 (pt_cmp (pc_dnotin hu (pe_callTy call_tuple_of (by rfl) B.tuple (by decide +kernel) (pa_cons (pv 9) pa_nil)) (pv 5)))))) (pss_cons (ps_dput hu (pv 5) (pe_callTy call_tuple_of (by rfl) B.tuple (by decide +kernel) (pa_cons (pv 9) pa_nil)) pe_bl rfl) (pss_one (ps_expr (pe_bm PySem.F.plainAttrs_list PySem.F.slot_list_append PySem.F.type_list_append mt_append (pv 4) (pa_cons (pv 9) pa_nil))))) pss_nil)))))))))
      (pss_one (ps_ret pe_non)))), ?_⟩
    have hv0 : 0 < v := by omega
    obtain ⟨fr0, lr0, _⟩ := dnb.isF fb
    have hT : (T v r).length ≤ 58 := Nat.le_trans (len_mono _ (Nat.le_refl _) fr0.len v60) lo.t
    have ne4 : ∀ {row : List Int}, row.length = 4 → row ≠ [] := fun h z => by rw [z] at h; cases h
    refine ⟨_, rfl, t, b, r, k, rfl, ht, fb, dnb, hk, fun u p0 q0 H1 s1 hu1 hp0 np0 => ?_⟩
    refine ⟨u, _, 0, .ref p0, rfl, rfl, SqT.of hu1, rfl, ?_⟩
    -- found, left, seen
    refine ⟨szl (by decide), fun f nf => ⟨_, rfl, szl (by show 1 < 1000; omega), fun lf nlf => fun d nd => ?_⟩⟩
    have sf := same_upd nf (o := .lst [])
    have slf := same_upd nlf (o := .lst [.ref p0])
    have sd := same_upd nd (o := .dT [])
    have fl : f ≠ lf := fun z => by rw [← z, upd_same] at nlf; cases nlf
    have fd : f ≠ d := ne_of_none (slf _ _ upd_same) nd
    have ld : lf ≠ d := ne_of_none upd_same nd
    have nf0 := s1.free nf
    have nlf0 := s1.free (sf.free nlf)
    have nd0 := s1.free (sf.free (slf.free nd))
    have s3 := sf.trans (slf.trans sd)
    refine ⟨_, rfl, p0, _, rfl, .inl ⟨SqL.of (s3 _ _ hp0), fun tk ntk => ?_⟩⟩
    have stk := same_upd ntk (o := .tup (r.map V.int))
    refine ⟨stk _ _ upd_same, tk, keyL r, rfl, by rw [upd_same, keyL_map], ?_⟩
    refine ⟨_, _, _, rfl, ?_⟩
    have s4 := s3.trans stk
    generalize hH4 : upd (upd (upd (upd (upd H1 f (.lst [])) lf (.lst [.ref p0])) d (.dT [])) tk (.tup (r.map V.int))) d _ = H4
    have gf : H4 f = some (.lst []) := by rw [← hH4, upd_ne fd]; exact stk _ _ (sd _ _ (slf _ _ upd_same))
    have glf : H4 lf = some (.lst [.ref p0]) := by rw [← hH4, upd_ne ld]; exact stk _ _ (sd _ _ upd_same)
    have gd : H4 d = some (.dT ([r].map en)) := by rw [← hH4, upd_same]; rfl
    have dne : ∀ {x : Addr} {o : HO}, H1 x = some o → x ≠ d := fun e => ne_of_none (slf _ _ (sf _ _ e)) nd
    have gp0 : H4 p0 = some (.lst (r.map V.int)) := by rw [← hH4, upd_ne (dne hp0)]; exact s4 _ _ hp0
    have gm : Same H H4 := fun x o e => by rw [← hH4, upd_ne (dne (s1 _ _ e))]; exact s4 _ _ (s1 _ _ e)
    refine ⟨5000, rfl, by decide, by decide, for_range (n := 5000) (fun i σ H' => ∃ (frefs lrefs : List Addr) (fr ls dn seen : List (List Int)) (x6 x7 x8 x9 x10 : Option V), σ = [some (.ref t), some (.int v), some (.ref p0), some (.ref f), some (.ref lf), some (.ref d), x6, x7, x8, x9, x10] ∧
        H' f = some (.lst (frefs.map V.ref)) ∧ RowsAt K false H' frefs fr ∧ H' lf = some (.lst (lrefs.map V.ref)) ∧ RowsAt K false H' lrefs ls ∧ H' d = some (.dT (seen.map en)) ∧ Dfs v r fr ls dn seen ∧ dn.length = i ∧ fr.length ≤ 4 * i ∧ Same H H')
      ⟨[], [p0], [], [r], [], [r], none, none, none, none, none, rfl, gf, .nil, glf, .cons (SqL.of gp0) .nil, gd, ⟨List.nodup_cons.mpr ⟨List.not_mem_nil, List.nodup_nil⟩, List.mem_cons_self .., fun c hc => by rw [List.mem_singleton.mp hc]; exact .root, List.Perm.refl _, fun c hc => absurd hc List.not_mem_nil, fun c hc => absurd hc List.not_mem_nil⟩, rfl, Nat.zero_le _, gm⟩ ?_ ?_⟩
    rotate_left
    · rintro σ H5 ⟨frefs, lrefs, fr, ls, dn, seen, x6, x7, x8, x9, x10, rfl, gf, gF, glf, gL, gd, D, hdn, hfn, gm⟩
      have h1 := D.few fr0
      have h2 := D.perm.length_eq
      rw [List.length_append] at h2
      omega
    clear gf glf gd gp0 gm hH4 H4
    rintro i σ H5 hi ⟨frefs, lrefs, fr, ls, dn, seen, x6, x7, x8, x9, x10, rfl, gf, gF, glf, gL, gd, D, hdn, hfn, gm⟩
    rw [show (0 : Int) + (i : Int) = (i : Int) from by omega]
    have hfew := D.few fr0
    have hpl := D.perm.length_eq
    rw [List.length_append] at hpl
    have hi59 : i ≤ 59 := by omega
    refine ⟨_, rfl, szl (by decide), fun z nz => ?_⟩
    have sz5 := same_upd nz (o := .lst [])
    refine ⟨_, _, .lst (SqL.of (sz5 _ _ glf)) (dp_rows (rows_same sz5 gL)), .lst (SqL.of upd_same) .nil, shaped_rows false false ls, shaped_nil, _, rfl, ?_⟩
    generalize upd H5 z (.lst []) = H6 at sz5
    replace gf := sz5 _ _ gf
    replace glf := sz5 _ _ glf
    replace gd := sz5 _ _ gd
    replace gF := rows_same sz5 gF
    replace gL := rows_same sz5 gL
    replace gm := gm.trans sz5
    rw [eqv_nil]
    have hlenL := rows_len gL
    have hlenF := rows_len gF
    by_cases cl : ls = []
    · subst cl
      refine iT rfl ?_
      -- sorted([key for key in dict([(tuple(some), True) for some in found])])
      refine ⟨_, rfl, f, rfl, ⟨_, SqL.of gf⟩, fun D1 hD1 => lc_list (K := K) (a := f) (xs := frefs.map V.ref) (fun j H' => ∃ prefs : List Addr, H' D1 = some (.lst (prefs.map V.ref)) ∧ Paired (fun p kv => En H' K p kv) prefs ((fr.take j).map en) ∧ Same H6 H') ⟨[], upd_same, .nil, same_upd hD1⟩ (fun j H' _ ⟨_, _, _, s⟩ => SqL.of (s _ _ gf)) ?_ ?_⟩
      · rintro j y H7 e ⟨prefs, hd1, hE, s7⟩
        rw [List.getElem?_map] at e
        cases er : frefs[j]? with
        | none => rw [er] at e; cases e
        | some qa =>
          rw [er] at e
          cases e
          obtain ⟨row, erow, hrow⟩ := rows_get gF er
          obtain ⟨hj, erow2⟩ := List.getElem?_eq_some_iff.mp erow
          refine ⟨rfl, _, rfl, qa, _, rfl, .inl ⟨rowAt_same (tp := false) (row := row) s7 hrow, fun tt nt => ⟨szl (by show 2 < 1000; omega), fun pp npp => ?_⟩⟩⟩
          have s8 := (same_upd nt (o := .tup (row.map V.int))).trans (same_upd npp (o := .tup [.ref tt, .bl true]))
          have hd8 := s8 _ _ hd1
          have lpre := Paired.length hE
          rw [List.length_map, List.length_take] at lpre
          refine ⟨_, hd8, by rw [List.length_map]; exact sz (by omega), prefs ++ [pp], by rw [upd_same, map_snoc_ref], ?_, same_at (s7.trans s8) hD1⟩
          rw [List.take_succ_eq_append_getElem hj, List.map_append, erow2]
          refine ens_upd hd8 (ens_snoc (a := pp) (kv := en row) ⟨tt, SqT.of upd_same, ?_⟩ (ens_same s8 hE))
          rw [show (en row).1 = keyL row from rfl, keyL_map]
          exact (same_upd npp) _ _ upd_same
      · rintro H7 ⟨prefs, hd1, hE, s7⟩
        rw [List.length_map, hlenF, List.take_length] at hE
        obtain ⟨L, hL1, hL2, hL3⟩ := merge_en fr [] List.nodup_nil
        refine ⟨D1, prefs, fr.map en, rfl, SqL.of hd1, hE, fun dd ndd => ⟨dd, _, rfl, upd_same, trivial, fun od => ⟨dd, od, rfl, .inr ⟨_, upd_same, fun D2 hD2 => ?_⟩⟩⟩⟩
        rw [show mergeT [] (fr.map en) = L.map en from hL1] at hD2 ⊢
        rw [upd_upd] at hD2 ⊢
        have sdd := same_upd ndd (o := .frz od (.dT (L.map en)))
        generalize hH8 : upd H7 dd (.frz od (.dT (L.map en))) = H8 at hD2 sdd ⊢
        have hdd : H8 dd = some (.frz od (.dT (L.map en))) := by rw [← hH8, upd_same]
        refine lc_it walk_keysT (fun j H' => ∃ krefs : List Addr, H' D2 = some (.lst (krefs.map V.ref)) ∧ RowsAt K true H' krefs (L.take j) ∧ Same H8 H') ⟨[], upd_same, .nil, same_upd hD2⟩ (fun j H' _ ⟨_, _, _, s⟩ => s _ _ hdd) ?_ ?_
        · rintro j y H9 H10 hj ⟨krefs, hk, hK, s9⟩ ⟨rfl, kk, vv, qq, e1, rfl, e2⟩
          rw [List.length_map] at hj
          rw [List.getElem?_map, List.getElem?_eq_getElem hj] at e1
          injection e1 with e1
          have ek : keyL L[j] = kk := congrArg Prod.fst e1
          have lk := rows_len hK
          rw [List.length_take] at lk
          have hLl : L.length ≤ fr.length := nd_len hL2 (fun x hx => ((hL3 x).mp hx).resolve_left List.not_mem_nil)
          refine ⟨rfl, _, rfl, _, hk, by rw [List.length_map]; exact sz (by omega), krefs ++ [qq], by rw [upd_same, map_snoc_ref], ?_, same_at s9 hD2⟩
          rw [List.take_succ_eq_append_getElem hj]
          refine rowsT_upd hk (rows_snoc (tp := true) (row := L[j]) ?_ hK)
          rw [← ek, keyL_map] at e2
          exact SqT.of e2
        · rintro H9 ⟨krefs, hk, hK, s9⟩
          rw [List.length_map, List.take_length] at hK
          have hmem : ∀ x, x ∈ L ↔ ∃ l, ResA v r l ∧ srt l = x := fun x => by
            rw [hL3]
            constructor
            · rintro (h | h)
              · exact absurd h List.not_mem_nil
              · exact (D.tells fr0 hv0 x).mp h
            · exact fun h => .inr ((D.tells fr0 hv0 x).mpr h)
          refine ⟨D2, krefs, L, rfl, SqL.of hk, hK, fun _ row hrow => ?_, fun refs' p hR' np => ?_⟩
          · obtain ⟨l, hl, rfl⟩ := (hmem row).mp hrow
            exact ne4 ((srt_perm l).length_eq.trans (hl.isF fr0 hv0).len)
          · have sp := same_upd np (o := .lst (refs'.map V.ref))
            exact q p refs' L _ (gm.trans (s7.trans (sdd.trans (s9.trans sp)))) upd_same (rows_same (K := K) (tp := true) (as := refs') (rows := L.mergeSort rle) sp hR') ⟨hL2, hmem⟩
    · refine iF (by cases ls with | nil => exact absurd rfl cl | cons x r => rfl) ?_
      have cl2 : lrefs ≠ [] := fun z => cl (List.eq_nil_of_length_eq_zero (by rw [← hlenL, z]; rfl))
      obtain ⟨lr, a, ls', b, rfl, rfl, gL', gb0⟩ := rowsF_split gL cl2
      have tb : Tr v r b := D.tr b (D.perm.mem_iff.mpr (by simp))
      have fbb := tb.isF fr0
      have hb4 := fbb.len
      rw [map_snoc_ref] at glf
      refine ⟨_, rfl, .inl ⟨rfl, _, SqL.of glf⟩, lf, _, .ref a, rfl, rfl, glf, by simp, ?_⟩
      rw [List.dropLast_concat]
      have n1 : ∀ row, row ∈ fr → row ≠ [] := fun row hrow => ne4 (DfsIn.len4 D.pop fr0 hv0 hrow)
      have n2 : ∀ row, row ∈ ls' → row ≠ [] := fun row hrow => ne4 ((D.tr row (D.perm.mem_iff.mpr (by simp [hrow]))).isF fr0).len
      have glf' : H6 lf = some (.lst ((lr ++ [a]).map V.ref)) := by rw [map_snoc_ref]; exact glf
      let Pv2 : Nat → L2.St → Hp → Prop := fun p σ H' => ∃ (frefs : List Addr) (fr : List (List Int)) (lrefs : List Addr) (ls seen : List (List Int)) (x8 x9 x10 : Option V), σ = [some (.ref t), some (.int v), some (.ref p0), some (.ref f), some (.ref lf), some (.ref d), some (.int (i : Int)), some (.ref a), x8, x9, x10] ∧
        H' f = some (.lst (frefs.map V.ref)) ∧ RowsAt K false H' frefs fr ∧ H' lf = some (.lst (lrefs.map V.ref)) ∧ RowsAt K false H' lrefs ls ∧ H' d = some (.dT (seen.map en)) ∧ RowAt K false H' a b ∧ DfsIn v r fr ls dn seen b p p ∧ fr.length ≤ 4 * i + p ∧ Same H H'
      refine ⟨4, rfl, by decide, by decide, for_range (lo := 0) (n := 4) Pv2
        ⟨frefs, fr, lr, ls', seen, x8, x9, x10, rfl, by rw [upd_ne fl]; exact gf, rowsL_upd glf' gF n1, upd_same, rowsL_upd glf' gL' n2, by rw [upd_ne ld.symm]; exact gd, rowL_upd gb0 (ne4 hb4) glf', D.pop, by omega, same_at gm nlf0⟩ ?_ ?_⟩
      rotate_left
      · rintro σ H7 ⟨frx, frX, lr2, lsx, seenx, y8, y9, y10, rfl, gf, gF, glf, gL, gd, gb, D', gn, gm⟩
        exact ⟨frx, lr2, frX, lsx, dn ++ [b], seenx, _, _, _, _, _, rfl, gf, gF, glf, gL, gd, D'.fin, by rw [List.length_append, hdn]; rfl, by omega, gm⟩
      clear gf gF glf gL gd gm glf' gL' gb0 n1 n2 hlenF hlenL hfn
      rintro p σ H7 hp ⟨frx, frX, lr2, ls, seen, y8, y9, y10, rfl, gf, gF, glf, gL, gd, gb, D0, gn, gm⟩
      rw [show (0 : Int) + (p : Int) = (p : Int) from by omega]
      have gb' : SqL K H7 a (b.map V.int) := gb
      refine ⟨_, rfl, _, rfl, a, _, p, _, rfl, rfl, gb', atI_nat (at_int (by omega)), _, rfl, rfl, _, rfl, ?_⟩
      by_cases c : b.getD p 0 = v
      · refine iT (decide_eq_true (by rw [c])) ?_
        have fx := isF_tn fbb hp (by have := fbb.pos; omega)
        obtain ⟨k2, l2, d2, dk, fl2, _⟩ := fx.dn
        have hsum := tb.sum fr0
        have hts := sum_tn hb4 hp
        rw [c] at hts
        have hk2 : k2 < 2000 := by
          rcases hsum with h | h
          · have := lo.s; rw [← h] at this; omega
          · omega
        refine ⟨_, rfl, .inl ⟨rfl, _, SqL.of gf⟩, _, rfl, _, rfl, a, b, p, rfl, gb', hb4, by omega, fun u2 Ha sa nu2 hu2 => ?_⟩
        refine ⟨u2, tn b p, l2, k2, rfl, SqL.of hu2, fx, d2, hk2, fun w2 pp qq Hb sb hw hpp npp => ?_⟩
        refine ⟨w2, _, 0, .ref pp, rfl, rfl, SqT.of hw, rfl, pp, l2, rfl, SqL.of hpp, by rw [fl2.len]; decide, fun ns pl hperm hup npl => ?_⟩
        have spl := same_upd npl (o := .lst (ns.map V.int))
        have sab := sa.trans (sb.trans spl)
        have hns : ns = srt (dwn (tn b p)) := by rw [dwn_eq fx d2]; exact srt_of hperm hup
        have gf1 := sab _ _ gf
        have lF := rows_len gF
        refine ⟨f, _, _, rfl, rfl, gf1, by rw [List.length_map]; exact sz (by omega), ?_⟩
        have n1 : ∀ row, row ∈ frX ++ [ns] → row ≠ [] := fun row hrow => by
          rcases List.mem_append.mp hrow with h | h
          · exact ne4 (DfsIn.len4 D0 fr0 hv0 h)
          · rw [List.mem_singleton.mp h]; exact ne4 (hperm.length_eq.trans fl2.len)
        have gF1 := rowsL_upd (o := .lst (frx.map V.ref ++ [.ref pl])) gf1 (rows_snoc (tp := false) (a := pl) (row := ns) (SqL.of upd_same) (rows_same sab gF)) n1
        have n3 : ∀ row, row ∈ ls → row ≠ [] := fun row hrow => ne4 ((D0.tr row (D0.perm.mem_iff.mpr (List.mem_append_right _ (List.mem_cons_of_mem _ hrow)))).isF fr0).len
        have gL1 := rowsL_upd (o := .lst (frx.map V.ref ++ [.ref pl])) gf1 (rows_same sab gL) n3
        have gb1 := rowL_upd (o := .lst (frx.map V.ref ++ [.ref pl])) (rowAt_same (tp := false) (row := b) sab gb) (ne4 hb4) gf1
        have glf1 := sab _ _ glf
        have gd1 := sab _ _ gd
        generalize hHg : upd (upd Hb pl (.lst (ns.map V.int))) f (.lst (frx.map V.ref ++ [.ref pl])) = Hg at gF1 gL1 gb1
        replace gf : Hg f = some (.lst ((frx ++ [pl]).map V.ref)) := by rw [← hHg, upd_same, map_snoc_ref]
        replace glf : Hg lf = some (.lst (lr2.map V.ref)) := by rw [← hHg, upd_ne fl.symm]; exact glf1
        replace gd : Hg d = some (.dT (seen.map en)) := by rw [← hHg, upd_ne fd.symm]; exact gd1
        replace gm : Same H Hg := hHg ▸ same_at (gm.trans sab) nf0
        replace gn : (frX ++ [ns]).length ≤ 4 * i + (p + 1) := by rw [List.length_append]; show frX.length + 1 ≤ _; omega
        have DD := D0.found fr0 hv0 hp c
        rw [← hns] at DD
        generalize frx ++ [pl] = frx at *
        generalize frX ++ [ns] = frX at *
        have gF := gF1
        have gL := gL1
        have gb : SqL K Hg a (b.map V.int) := gb1
        clear gF1 gL1 gb1 hHg n1 n3 gf1 lF
        have D : DfsIn v r frX ls dn seen b p (p + 1) := DD
        refine ⟨_, rfl, _, rfl, a, b, p, rfl, gb, by omega, fun u2 Hc sc nu2 hu2 => ?_⟩
        have es : p < (sw b p).length := by rw [len_sw]; omega
        have eg := get_sw hb4 hp
        have cf := sc _ _ gf
        have clf := sc _ _ glf
        have cd := sc _ _ gd
        have cF := rows_same sc gF
        have cL := rows_same sc gL
        have cb := rowAt_same (tp := false) (row := b) sc gb
        have cm := gm.trans sc
        have past : (ex b.sum (b.getD p 0) ≤ v → sw b p ∈ seen) → ∀ Hq, Same Hc Hq → ∀ σ', σ' = [some (.ref t), some (.int v), some (.ref p0), some (.ref f), some (.ref lf), some (.ref d), some (.int (i : Int)), some (.ref a), some (.int (p : Int)), some (.ref u2), y10] → Pv2 (p + 1) σ' Hq := by
          intro hh Hq sq σ' e
          exact ⟨frx, frX, lr2, ls, seen, _, _, _, e, sq _ _ cf, rows_same sq cF, sq _ _ clf, rows_same sq cL, sq _ _ cd, rowAt_same (tp := false) (row := b) sq cb, D.past hh, gn, cm.trans sq⟩
        refine ⟨_, rfl, _, rfl, u2, _, p, _, rfl, rfl, SqL.of hu2, atI_nat (at_int es), _, rfl, _, _, rfl, rfl, _, rfl, ?_⟩
        by_cases c1 : (sw b p).getD p 0 ≤ v
        · refine iT (decide_eq_true c1) ⟨_, rfl, u2, _, rfl, .inl ⟨SqL.of hu2, fun tk ntk => ?_⟩⟩
          have stk := same_upd ntk (o := .tup ((sw b p).map V.int))
          have htk : (upd Hc tk (.tup ((sw b p).map V.int))) tk = some (.tup ((keyL (sw b p)).map kV)) := by rw [upd_same, keyL_map]
          by_cases c2 : sw b p ∈ seen
          · refine ⟨_, rfl, d, some (.bl true), rfl, val_in c2 ▸ DGet.t (stk _ _ cd) htk, _, rfl, iF rfl (past (fun _ => c2) _ stk _ rfl)⟩
          · refine ⟨_, rfl, d, none, rfl, val_out c2 ▸ DGet.t (stk _ _ cd) htk, _, rfl, iT rfl ?_⟩
            have hu3 := stk _ _ hu2
            refine ⟨_, rfl, _, rfl, u2, _, rfl, .inl ⟨SqL.of hu3, fun tk2 ntk2 => ?_⟩⟩
            have stk2 := same_upd ntk2 (o := .tup ((sw b p).map V.int))
            have s45 := stk.trans stk2
            have htk2 : (upd (upd Hc tk (.tup ((sw b p).map V.int))) tk2 (.tup ((sw b p).map V.int))) tk2 = some (.tup ((keyL (sw b p)).map kV)) := by rw [upd_same, keyL_map]
            have hsl : seen.length ≤ 59 := by have := DfsIn.few D fr0; omega
            refine ⟨d, _, rfl, DPut.t (s45 _ _ cd) htk2 (by rw [List.length_map]; exact sz (by omega)), ?_⟩
            generalize hHe : upd (upd (upd Hc tk (.tup ((sw b p).map V.int))) tk2 (.tup ((sw b p).map V.int))) d _ = He
            have ef : He f = some (.lst (frx.map V.ref)) := by rw [← hHe, upd_ne fd]; exact s45 _ _ cf
            have elf : He lf = some (.lst (lr2.map V.ref)) := by rw [← hHe, upd_ne ld]; exact s45 _ _ clf
            have ed : He d = some (.dT ((seen ++ [sw b p]).map en)) := by rw [← hHe, upd_same, put_out c2]
            have eF : RowsAt K false He frx frX := hHe ▸ rowsL_updD (s45 _ _ cd) (rows_same s45 cF)
            have eL : RowsAt K false He lr2 ls := hHe ▸ rowsL_updD (s45 _ _ cd) (rows_same s45 cL)
            have eb : RowAt K false He a b := hHe ▸ rowL_updD (rowAt_same (tp := false) (row := b) s45 cb) (s45 _ _ cd)
            have eu : RowAt K false He u2 (sw b p) := hHe ▸ rowL_updD (rowAt_same (tp := false) (row := sw b p) s45 (SqL.of hu2)) (s45 _ _ cd)
            have em : Same H He := hHe ▸ same_at (cm.trans s45) nd0
            have ll := rows_len eL
            have hls : ls.length ≤ 59 := by have := D.perm.length_eq; rw [List.length_append, List.length_cons] at this; omega
            refine ⟨_, rfl, .inl ⟨rfl, _, SqL.of elf⟩, _, rfl, lf, _, _, rfl, rfl, elf, by rw [List.length_map]; exact sz (by omega), ?_⟩
            have Dp := D.put fr0 lr0 hp (by rw [← eg]; exact c1) c2
            have n1 : ∀ row, row ∈ frX → row ≠ [] := fun row hrow => ne4 (DfsIn.len4 D fr0 hv0 hrow)
            have n2 : ∀ row, row ∈ ls ++ [sw b p] → row ≠ [] := fun row hrow => ne4 ((Dp.tr row (Dp.perm.mem_iff.mpr (List.mem_append_right _ (List.mem_cons_of_mem _ hrow)))).isF fr0).len
            exact ⟨frx, frX, lr2 ++ [u2], ls ++ [sw b p], seen ++ [sw b p], _, _, _, rfl, by rw [upd_ne fl]; exact ef, rowsL_upd elf eF n1, by rw [upd_same, map_snoc_ref], rowsL_upd elf (rows_snoc eu eL) n2, by rw [upd_ne ld.symm]; exact ed, rowL_upd eb (ne4 hb4) elf, Dp, gn, same_at em nlf0⟩
        · exact iF (decide_eq_false c1) (iF rfl (past (fun z => absurd (by rw [eg]; exact z) c1) _ (Same.refl _) _ rfl))
      · refine iF (decide_eq_false (fun z => c (by injection z))) ?_
        have DD := D0.skip c
        replace gn : frX.length ≤ 4 * i + (p + 1) := by omega
        have D : DfsIn v r frX ls dn seen b p (p + 1) := DD
        refine ⟨_, rfl, _, rfl, a, b, p, rfl, gb, by omega, fun u2 Hc sc nu2 hu2 => ?_⟩
        have es : p < (sw b p).length := by rw [len_sw]; omega
        have eg := get_sw hb4 hp
        have cf := sc _ _ gf
        have clf := sc _ _ glf
        have cd := sc _ _ gd
        have cF := rows_same sc gF
        have cL := rows_same sc gL
        have cb := rowAt_same (tp := false) (row := b) sc gb
        have cm := gm.trans sc
        have past : (ex b.sum (b.getD p 0) ≤ v → sw b p ∈ seen) → ∀ Hq, Same Hc Hq → ∀ σ', σ' = [some (.ref t), some (.int v), some (.ref p0), some (.ref f), some (.ref lf), some (.ref d), some (.int (i : Int)), some (.ref a), some (.int (p : Int)), some (.ref u2), y10] → Pv2 (p + 1) σ' Hq := by
          intro hh Hq sq σ' e
          exact ⟨frx, frX, lr2, ls, seen, _, _, _, e, sq _ _ cf, rows_same sq cF, sq _ _ clf, rows_same sq cL, sq _ _ cd, rowAt_same (tp := false) (row := b) sq cb, D.past hh, gn, cm.trans sq⟩
        refine ⟨_, rfl, _, rfl, u2, _, p, _, rfl, rfl, SqL.of hu2, atI_nat (at_int es), _, rfl, _, _, rfl, rfl, _, rfl, ?_⟩
        by_cases c1 : (sw b p).getD p 0 ≤ v
        · refine iT (decide_eq_true c1) ⟨_, rfl, u2, _, rfl, .inl ⟨SqL.of hu2, fun tk ntk => ?_⟩⟩
          have stk := same_upd ntk (o := .tup ((sw b p).map V.int))
          have htk : (upd Hc tk (.tup ((sw b p).map V.int))) tk = some (.tup ((keyL (sw b p)).map kV)) := by rw [upd_same, keyL_map]
          by_cases c2 : sw b p ∈ seen
          · refine ⟨_, rfl, d, some (.bl true), rfl, val_in c2 ▸ DGet.t (stk _ _ cd) htk, _, rfl, iF rfl (past (fun _ => c2) _ stk _ rfl)⟩
          · refine ⟨_, rfl, d, none, rfl, val_out c2 ▸ DGet.t (stk _ _ cd) htk, _, rfl, iT rfl ?_⟩
            have hu3 := stk _ _ hu2
            refine ⟨_, rfl, _, rfl, u2, _, rfl, .inl ⟨SqL.of hu3, fun tk2 ntk2 => ?_⟩⟩
            have stk2 := same_upd ntk2 (o := .tup ((sw b p).map V.int))
            have s45 := stk.trans stk2
            have htk2 : (upd (upd Hc tk (.tup ((sw b p).map V.int))) tk2 (.tup ((sw b p).map V.int))) tk2 = some (.tup ((keyL (sw b p)).map kV)) := by rw [upd_same, keyL_map]
            have hsl : seen.length ≤ 59 := by have := DfsIn.few D fr0; omega
            refine ⟨d, _, rfl, DPut.t (s45 _ _ cd) htk2 (by rw [List.length_map]; exact sz (by omega)), ?_⟩
            generalize hHe : upd (upd (upd Hc tk (.tup ((sw b p).map V.int))) tk2 (.tup ((sw b p).map V.int))) d _ = He
            have ef : He f = some (.lst (frx.map V.ref)) := by rw [← hHe, upd_ne fd]; exact s45 _ _ cf
            have elf : He lf = some (.lst (lr2.map V.ref)) := by rw [← hHe, upd_ne ld]; exact s45 _ _ clf
            have ed : He d = some (.dT ((seen ++ [sw b p]).map en)) := by rw [← hHe, upd_same, put_out c2]
            have eF : RowsAt K false He frx frX := hHe ▸ rowsL_updD (s45 _ _ cd) (rows_same s45 cF)
            have eL : RowsAt K false He lr2 ls := hHe ▸ rowsL_updD (s45 _ _ cd) (rows_same s45 cL)
            have eb : RowAt K false He a b := hHe ▸ rowL_updD (rowAt_same (tp := false) (row := b) s45 cb) (s45 _ _ cd)
            have eu : RowAt K false He u2 (sw b p) := hHe ▸ rowL_updD (rowAt_same (tp := false) (row := sw b p) s45 (SqL.of hu2)) (s45 _ _ cd)
            have em : Same H He := hHe ▸ same_at (cm.trans s45) nd0
            have ll := rows_len eL
            have hls : ls.length ≤ 59 := by have := D.perm.length_eq; rw [List.length_append, List.length_cons] at this; omega
            refine ⟨_, rfl, .inl ⟨rfl, _, SqL.of elf⟩, _, rfl, lf, _, _, rfl, rfl, elf, by rw [List.length_map]; exact sz (by omega), ?_⟩
            have Dp := D.put fr0 lr0 hp (by rw [← eg]; exact c1) c2
            have n1 : ∀ row, row ∈ frX → row ≠ [] := fun row hrow => ne4 (DfsIn.len4 D fr0 hv0 hrow)
            have n2 : ∀ row, row ∈ ls ++ [sw b p] → row ≠ [] := fun row hrow => ne4 ((Dp.tr row (Dp.perm.mem_iff.mpr (List.mem_append_right _ (List.mem_cons_of_mem _ hrow)))).isF fr0).len
            exact ⟨frx, frX, lr2 ++ [u2], ls ++ [sw b p], seen ++ [sw b p], _, _, _, rfl, by rw [upd_ne fl]; exact ef, rowsL_upd elf eF n1, by rw [upd_same, map_snoc_ref], rowsL_upd elf (rows_snoc eu eL) n2, by rw [upd_ne ld.symm]; exact ed, rowL_upd eb (ne4 hb4) elf, Dp, gn, same_at em nlf0⟩
        · exact iF (decide_eq_false c1) (iF rfl (past (fun z => absurd (by rw [eg]; exact z) c1) _ (Same.refl _) _ rfl))
end
end BS
namespace BS
open PySem PySem.Spec PyProof.Rows L2
theorem gf_perm {b c : List Int} (h : b.Perm c) : ∀ g : Nat, b.foldl (fun g x => Nat.gcd g x.natAbs) g = c.foldl (fun g x => Nat.gcd g x.natAbs) g := by
  induction h with
  | nil => intro g; rfl
  | cons x _ ih => intro g; exact ih _
  | swap x y l =>
    intro g
    show l.foldl _ (Nat.gcd (Nat.gcd g y.natAbs) x.natAbs) = l.foldl _ (Nat.gcd (Nat.gcd g x.natAbs) y.natAbs)
    rw [Nat.gcd_assoc, Nat.gcd_comm y.natAbs, ← Nat.gcd_assoc]
  | trans _ _ i1 i2 => intro g; rw [i1 g, i2 g]
theorem gcd4_perm {b c : List Int} (h : b.Perm c) : gcd4 b = gcd4 c := gf_perm h 0
theorem gf_dvd : ∀ (b : List Int) (g : Nat), b.foldl (fun g x => Nat.gcd g x.natAbs) g ∣ g ∧ ∀ x, x ∈ b → b.foldl (fun g x => Nat.gcd g x.natAbs) g ∣ x.natAbs
  | [], g => ⟨Nat.dvd_refl _, fun x h => absurd h List.not_mem_nil⟩
  | y :: r, g => by
    obtain ⟨h1, h2⟩ := gf_dvd r (Nat.gcd g y.natAbs)
    refine ⟨Nat.dvd_trans h1 (Nat.gcd_dvd_left _ _), fun x hx => ?_⟩
    rcases List.mem_cons.mp hx with rfl | hx
    · exact Nat.dvd_trans h1 (Nat.gcd_dvd_right _ _)
    · exact h2 x hx
theorem dvd_gf {d : Nat} : ∀ (b : List Int) (g : Nat), d ∣ g → (∀ x, x ∈ b → d ∣ x.natAbs) → d ∣ b.foldl (fun g x => Nat.gcd g x.natAbs) g
  | [], g, h, _ => h
  | y :: r, g, h, k => dvd_gf r _ (Nat.dvd_gcd h (k y (List.mem_cons_self ..))) (fun x hx => k x (List.mem_cons_of_mem _ hx))
theorem gcd4_dvd {b : List Int} {x : Int} (h : x ∈ b) : gcd4 b ∣ x.natAbs := (gf_dvd b 0).2 x h
theorem dvd_gcd4 {d : Nat} {b : List Int} (h : ∀ x, x ∈ b → d ∣ x.natAbs) : d ∣ gcd4 b := dvd_gf b 0 (Nat.dvd_zero _) h
theorem gcd4_sw {b : List Int} (hl : b.length = 4) {p : Nat} (hp : p < 4) (h : gcd4 b = 1) : gcd4 (sw b p) = 1 := by
  have key : ∀ c : List Int, c.length = 4 → gcd4 c ∣ gcd4 (sw c p) := by
    intro c hc
    refine dvd_gcd4 (fun x hx => ?_)
    obtain ⟨y1, y2, y3, y4, rfl⟩ := four_of hc
    have d1 : ((gcd4 [y1, y2, y3, y4] : Nat) : Int) ∣ y1 := Int.ofNat_dvd_left.mpr (gcd4_dvd (by simp))
    have d2 : ((gcd4 [y1, y2, y3, y4] : Nat) : Int) ∣ y2 := Int.ofNat_dvd_left.mpr (gcd4_dvd (by simp))
    have d3 : ((gcd4 [y1, y2, y3, y4] : Nat) : Int) ∣ y3 := Int.ofNat_dvd_left.mpr (gcd4_dvd (by simp))
    have d4 : ((gcd4 [y1, y2, y3, y4] : Nat) : Int) ∣ y4 := Int.ofNat_dvd_left.mpr (gcd4_dvd (by simp))
    have ds : ((gcd4 [y1, y2, y3, y4] : Nat) : Int) ∣ y1 + y2 + y3 + y4 := Int.dvd_add (Int.dvd_add (Int.dvd_add d1 d2) d3) d4
    have dx : ∀ y : Int, ((gcd4 [y1, y2, y3, y4] : Nat) : Int) ∣ y → ((gcd4 [y1, y2, y3, y4] : Nat) : Int) ∣ ex (y1 + y2 + y3 + y4) y := fun y dy => by
      unfold ex
      exact Int.dvd_sub (Int.dvd_mul_of_dvd_right (Int.dvd_sub ds dy)) dy
    refine Int.ofNat_dvd_left.mp ?_
    rcases p4 hp with rfl | rfl | rfl | rfl
    · rw [sw0] at hx
      simp only [List.mem_cons, List.not_mem_nil, or_false] at hx
      rcases hx with rfl | rfl | rfl | rfl <;> first | assumption | exact dx _ d1
    · rw [sw1] at hx
      simp only [List.mem_cons, List.not_mem_nil, or_false] at hx
      rcases hx with rfl | rfl | rfl | rfl <;> first | assumption | exact dx _ d2
    · rw [sw2] at hx
      simp only [List.mem_cons, List.not_mem_nil, or_false] at hx
      rcases hx with rfl | rfl | rfl | rfl <;> first | assumption | exact dx _ d3
    · rw [sw3] at hx
      simp only [List.mem_cons, List.not_mem_nil, or_false] at hx
      rcases hx with rfl | rfl | rfl | rfl <;> first | assumption | exact dx _ d4
  have h2 := key (sw b p) (by rw [len_sw]; exact hl)
  rw [sw_sw hl hp, h] at h2
  exact Nat.dvd_one.mp h2
theorem Low.perm {r s : List Int} (h : Low r) (hl : r.length = 4) (p : r.Perm s) : Low s := ⟨by rw [← sum_perm p]; exact h.s, by rw [← len_perm _ (Nat.le_refl _) hl p]; exact h.t⟩
/-- what a root is -/
structure Root (r : List Int) : Prop where
  f : IsF r
  l : lowP r = none
  g : gcd4 r = 1
  lo : Low r
theorem all_range {n s : Nat} {P : Nat → Bool} (h : ((List.range n).all P) = true) (hs : s < n) : P s = true := List.all_eq_true.mp h s (List.mem_range.mpr hs)
theorem root_of {s : Nat} (hs : s ≤ 15) {r : List Int} (h : r ∈ roots s) : Root r := by
  have h1 := List.all_eq_true.mp (all_range roots_ok (show s < 17 by omega)) r h
  have h2 := List.all_eq_true.mp (all_range roots_few (show s < 16 by omega)) r h
  simp only [Bool.and_eq_true, decide_eq_true_eq] at h1 h2
  obtain ⟨a, b, c, d⟩ := h1
  exact ⟨isF_of a, b, c, d, h2⟩
theorem roots_n {s : Nat} (hs : s ≤ 16) : 0 < (roots s).length ∧ (roots s).length ≤ 6 := by
  have h1 := all_range roots_len (show s < 17 by omega)
  exact of_decide_eq_true h1
theorem Root.perm {r s : List Int} (h : Root r) (p : r.Perm s) : Root s := ⟨h.f.perm p, lowP_none_perm p h.f h.l, (gcd4_perm p).symm.trans h.g, h.lo.perm h.f.len p⟩
theorem Root.dn {r : List Int} (h : Root r) : Dn r 0 r := .stop h.l
/-- what all_right gathers -/
def gath (n i : Nat) : List (List Int) := (List.range i).flatMap fun s => (roots s).flatMap fun r => (outs (n : Int) r).mergeSort rle
theorem flat_perm {α β : Type} {f g : α → List β} : ∀ (l : List α), (∀ x, x ∈ l → (f x).Perm (g x)) → (l.flatMap f).Perm (l.flatMap g)
  | [], _ => List.Perm.refl _
  | x :: r, h => by
    rw [List.flatMap_cons, List.flatMap_cons]
    exact (h x (List.mem_cons_self ..)).append (flat_perm r (fun y hy => h y (List.mem_cons_of_mem _ hy)))
theorem gath_all {n : Nat} (h1 : 1 ≤ n) (h2 : n ≤ 16) : (gath n n).Perm (roots n) := by
  have h := List.all_eq_true.mp roots_all n (List.mem_range'_1.mpr ⟨h1, by omega⟩)
  refine List.Perm.trans ?_ (List.isPerm_iff.mp h)
  exact flat_perm _ (fun s _ => flat_perm _ (fun r _ => List.mergeSort_perm _ _))
theorem gath_succ (n i : Nat) : gath n (i + 1) = gath n i ++ (roots i).flatMap fun r => (outs (n : Int) r).mergeSort rle := by
  unfold gath
  rw [List.range_succ, List.flatMap_append]; simp
theorem take_flat {α β : Type} {f : α → List β} {l : List α} {i : Nat} {x : α} (h : l[i]? = some x) : (l.take (i + 1)).flatMap f = (l.take i).flatMap f ++ f x := by
  obtain ⟨hi, e⟩ := List.getElem?_eq_some_iff.mp h
  rw [List.take_succ_eq_append_getElem hi, List.flatMap_append, e]; simp
end BS
namespace BS
open PySem PySem.Spec PyProof.Rows L2
theorem isiK {X : Cx} {K : PySem.W.Frag} (h : X.K = K) : CallR X (.builtin "isinstance") (rIsi K) := by subst h; exact call_isi
def rListOf (K : PySem.W.Frag) : List V → Hp → VK → Prop := fun xs H Q => ∃ p ys, xs = [.ref p] ∧ (SqL K H p ys ∨ SqT K H p ys) ∧ ∀ l, H l = none → Q (.ref l) (upd H l (.lst ys))
theorem listOf {X : Cx} {K : PySem.W.Frag} (h : X.K = K) : CallR X (.type "list") (rListOf K) := by subst h; exact call_list_of
theorem tyX_T {K : PySem.W.Frag} {H : Hp} {a : Addr} {xs : List V} (h : SqT K H a xs) : TyX K H (.ref a) (.type "tuple") := by
  rcases h with (h | ⟨o, h⟩) | ⟨o, its, n, h1, h2, _⟩
  · exact .base (.tup h)
  · exact .fTuple h
  · exact .kTuple h1 h2
theorem rowL_but {K : PySem.W.Frag} {H H' : Hp} {m c a : Addr} {cells : List Int} {n : Nat} {row : List Int} (h : RowAt K false H a row) (ne : row ≠ []) (mk : MillC H m c cells n) (bt : But m H H') : RowAt K false H' a row := by
  obtain ⟨turn, left, e, _⟩ := mk.at_
  rcases h with (h | ⟨o, h⟩) | h
  · have na : a ≠ m := ne_of h e (fun z => by
      injection z with z
      cases row with
      | nil => exact ne rfl
      | cons x r => injection z with z1 z2; cases z1)
    have h2 : H' a = some (.lst (row.map V.int)) := bt.keep _ _ h na
    exact SqL.of h2
  · exact .inl (.inr ⟨o, bt.keep _ _ h (ne_of h e (fun z => nomatch z))⟩)
  · exact .inr h
theorem rowsL_but {K : PySem.W.Frag} {H H' : Hp} {m c : Addr} {cells : List Int} {n : Nat} (mk : MillC H m c cells n) (bt : But m H H') : ∀ {as : List Addr} {rows : List (List Int)}, RowsAt K false H as rows → (∀ row, row ∈ rows → row ≠ []) → RowsAt K false H' as rows
  | [], _, .nil, _ => .nil
  | _ :: _, _, .cons h t, ne => .cons (rowL_but h (ne _ (List.mem_cons_self ..)) mk bt) (rowsL_but mk bt t (fun r hr => ne r (List.mem_cons_of_mem _ hr)))
theorem same_make {H H' : Hp} {x dx C : Addr} (nx : H x = none) (ndx : H dx = none) (k : ∀ q o, (upd (upd H dx (.own x)) x (.ins C dx [])) q = some o → q ≠ x → H' q = some o) : Same H H' := fun b o e =>
  k b o (by rw [upd_ne (ne_of_none e nx), upd_ne (ne_of_none e ndx)]; exact e) (ne_of_none e nx)
theorem outs_ne {n : Int} {r : List Int} (h : Root r) (hn : 0 < n) {row : List Int} (hr : row ∈ outs n r) : row ≠ [] := by
  obtain ⟨l, hl, rfl⟩ := (outs_mem h.f hn).mp hr
  have h4 : (srt l).length = 4 := (srt_perm l).length_eq.trans (hl.isF h.f hn).len
  intro z
  rw [z] at h4
  exact absurd h4 (by decide)
theorem outs_len {n : Int} {r : List Int} (h : Root r) (hn : 0 < n) (h60 : n ≤ 60) : (outs n r).length ≤ 62 := by
  have h1 : (outs n r).length ≤ ((rootF n r ++ F n r).map fun x => srt (dwn (tn x.1 x.2))).length := by
    unfold outs
    exact nd_len (ddp_nd _) (fun x hx => ddp_mem.mp hx)
  rw [List.length_map] at h1
  have h2 := found_len n r
  have h3 := h.lo.t
  have h4 := len_mono (w := n) (v := 60) (b := r) _ (Nat.le_refl _) h.f.len h60
  omega
theorem flat_len {α β : Type} {f : α → List β} {k : Nat} : ∀ (l : List α), (∀ x, x ∈ l → (f x).length ≤ k) → (l.flatMap f).length ≤ k * l.length
  | [], _ => Nat.zero_le _
  | x :: r, h => by
    rw [List.flatMap_cons, List.length_append, List.length_cons, Nat.mul_succ]
    have h1 := h x (List.mem_cons_self ..)
    have h2 := flat_len r (fun y hy => h y (List.mem_cons_of_mem _ hy))
    omega
theorem gath_len {n i : Nat} (hn : 0 < n ∧ n ≤ 16) (hi : i ≤ 16) : (gath n i).length ≤ 372 * i := by
  unfold gath
  have := flat_len (f := fun s => (roots s).flatMap fun r => (outs (n : Int) r).mergeSort rle) (k := 372) (List.range i) (fun s hs => by
    have hs2 := List.mem_range.mp hs
    have h1 := flat_len (f := fun r => (outs (n : Int) r).mergeSort rle) (k := 62) (roots s) (fun r hr => by
      rw [List.length_mergeSort]
      exact outs_len (root_of (by omega) hr) (by omega) (by omega))
    have h2 := roots_n (show s ≤ 16 by omega)
    have h3 : 62 * (roots s).length ≤ 62 * 6 := Nat.mul_le_mul_left _ h2.2
    omega)
  rw [List.length_range] at this
  exact this
def spAll : Sp := fun vs H Q _ => ∃ (m c : Addr) (cells : List Int) (n t0 : Nat), vs = [.ref m, .int (n : Int)] ∧ MillC H m c cells t0 ∧ t0 + 1000 < 1000000 ∧ 1 ≤ n ∧ n ≤ 16 ∧
  ∀ H', MillC H' m c cells (t0 + 384) → But m H H' → Q (.bl true) H'
abbrev nAll : List Str := ["_law_mill_here", "_law_size", "_law_found", "_law_less", "_law_low", "_law_told", "_law_row"]
section
variable {P : Program} {w : World} {K : PySem.W.Frag} {mg : Str → Option Value} {base : Heap}
theorem scAll : FnScope nAll ["_law_mill_here", "_law_size"] (defScope sAll) := ⟨rfl, rfl, rfl, by decide +kernel, rfl, by decide +kernel, by decide +kernel⟩
theorem ok_all {f CF fI CB CN CT : Addr} {fd fdI : FuncData} (Fu : Fun K "_law_all_right" "_law_all_right" sAll f fd) (B : Blt mg) (TF : FourTxt K mg CF) (M : Mk K CF fI) (GF : FnOk P w K mg base CX0 4 fI fdI ["self", "bends"] (spFour CF)) (bF : Binds K fdI ["self", "bends"] [])
    (cS : Cal P w K mg base CX0 2 "_law_stirred" ["_law_mill_here", "_law_some"] (spStir K)) (cR : Cal P w K mg base CX0 2 "_law_roots" ["_law_size"] (spRoots K)) (cO : Cal P w K mg base (L2.CX P w) 4 "turned_out" ["four", "bend"] (spOut K CF CB CN CT)) :
    FnOk P w K mg base CX0 6 f fd ["_law_mill_here", "_law_size"] spAll := by
  obtain ⟨fS, fdS, mS, kS, bS, GS⟩ := cS
  obtain ⟨fR, fdR, mR, kR, bR, GR⟩ := cR
  obtain ⟨fO, fdO, mO, kO, bO, GO⟩ := cO
  refine Fu.ok scAll (fun vs H Q E h => ?_) (fun cdv A outer s H vs Q E hr h => ?_)
  · obtain ⟨m, c, cells, n, t0, rfl, _⟩ := h
    rfl
  · obtain ⟨m, c, cells, n, t0, rfl, hm, ht0, n1, n16, q⟩ := h
    have hr2 : Room 2 _ := hr.mono (by decide)
    have hr4 : Room 4 _ := hr.mono (by decide)
    refine ⟨_, pss_cons (ps_set (i := 2) scAll.nd rfl (Or.inl rfl) (pe_lst pa_nil))
      (pss_cons (ps_for PassesOwn.never rfl (pi_range1 rfl B.range (pa_cons (pv 1) pa_nil)) (pg_name (i := 3) scAll.nd rfl (Or.inl rfl))
        (pss_one (ps_for PassesOwn.never rfl (pi_list (pe_call GR hr2 rfl mR kR bR .nil pass0 (pa_cons (pv 3) pa_nil))) (pg_name (i := 4) scAll.nd rfl (Or.inl rfl))
          (pss_cons (ps_set (i := 5) scAll.nd rfl (Or.inl rfl) (pe_call (E := E0) GO hr4 rfl mO kO bO .nil (passF rfl rfl) (pa_cons (pe_make M GF hr rfl TF.gC bF .nil pass0 (pa_cons (pe_call GS hr2 rfl mS kS bS .nil pass0 (pa_cons (pv 0) (pa_cons (pv 4) pa_nil))) pa_nil)) (pa_cons (pv 1) pa_nil))))
          (pss_cons (ps_if (PW.pt (pw_or (pt_not (pt_val (pe_callB call_isi (by rfl) B.isinstance (by decide +kernel) (pa_cons (pv 5) (pa_cons (pe_bltn (v := .ty "tuple") (by rfl) B.tuple (by decide +kernel) rfl) pa_nil))))) (pw_or1 (pt_cmpR (op_neD hr.units) (pe_lc (own := [("_law_row", 6)]) (g := gName 6) rfl scAll.nd (pi_tup (pv 5)) (blkOk_by (N := nAll) (sc := defScope sAll) (by decide +kernel)) (fun _ _ _ _ _ => pg_name (i := 6) scAll.nd rfl (Or.inl rfl)) (fun _ _ _ _ _ => pts_one (pt_not (pt_val (pe_callB (isiK (K := K) rfl) (by rfl) B.isinstance (by decide +kernel) (pa_cons (pv 6) (pa_cons (pe_bltn (v := .ty "tuple") (by rfl) B.tuple (by decide +kernel) rfl) pa_nil)))))) (fun _ _ _ _ _ => pv 6)) (pe_lst pa_nil) (nomark _))))) (pss_one (ps_ret pe_bl)) pss_nil)
          (pss_one (ps_expr (pe_bm PySem.F.plainAttrs_list PySem.F.slot_list_extend PySem.F.type_list_extend mt_extend (pv 2) (pa_cons (pe_lc (own := [("_law_row", 6)]) (g := gName 6) (tt := tYes) rfl scAll.nd (pi_tup (pv 5)) (blkOk_by (N := nAll) (sc := defScope sAll) (by decide +kernel)) (fun _ _ _ _ _ => pg_name (i := 6) scAll.nd rfl (Or.inl rfl)) (fun _ _ _ _ _ => pts_nil) (fun _ _ _ _ _ => pe_callTy (listOf (K := K) rfl) (by rfl) B.list (by decide +kernel) (pa_cons (pv 6) pa_nil))) pa_nil)))))))))
      (pss_one (ps_ret (pe_cmpR (op_eqD hr.units) (pe_callB (cr_sortRows (tp := false) hr) (by rfl) B.sorted (by decide +kernel) (pa_cons (pv 2) pa_nil)) (pe_callB (cr_sortRows (tp := false) hr) (by rfl) B.sorted (by decide +kernel) (pa_cons (pe_call GR hr2 rfl mR kR bR .nil pass0 (pa_cons (pv 1) pa_nil)) pa_nil)) (nomark _))))), ?_⟩
    have hmne : ∃ o, H m = some o := hm.some_
    refine ⟨szl (by decide), fun f nf => ?_⟩
    have fm : f ≠ m := fun z => by obtain ⟨o, e⟩ := hmne; rw [z, e] at nf; cases nf
    have fc : f ≠ c := fun z => by have e := hm.cs; rw [← z, nf] at e; cases e
    refine ⟨_, rfl, _, rfl, by show -(2 ^ 62) ≤ (n : Int); omega, by show (n : Int) < 2 ^ 62; omega, ?_⟩
    show ∃ W : Nat → Nat → L2.St → Hp → Prop, _
    rw [Int.toNat_natCast]
    refine for_range (lo := 0) (n := n) (fun i σ H' => ∃ (frefs : List Addr) (x3 x4 x5 x6 : Option V), σ = [some (.ref m), some (.int (n : Int)), some (.ref f), x3, x4, x5, x6] ∧ H' f = some (.lst (frefs.map V.ref)) ∧ RowsAt K false H' frefs (gath n i) ∧ MillC H' m c cells (t0 + 24 * i) ∧ But m H H')
      ⟨[], none, none, none, none, rfl, upd_same, .nil, hm.upd_at fm fc, (But.refl hmne).upd_at nf fm⟩ ?_ ?_
    · rintro i σ H1 hi ⟨frefs, x3, x4, x5, x6, rfl, hf, hF, mk, bt⟩
      rw [show (0 : Int) + (i : Int) = (i : Int) from by omega]
      refine ⟨_, rfl, i, rfl, by omega, fun l refs H2 s2 nl hl hR hfr => ?_⟩
      have lm : l ≠ m := fun z => by obtain ⟨o, e⟩ := mk.some_; rw [z, e] at nl; cases nl
      have lf : l ≠ f := (ne_of_none hf nl).symm
      have hroot : ∀ r, r ∈ roots i → Root r := fun r hr => root_of (by omega) hr
      have hrn := roots_n (show i ≤ 16 by omega)
      have hlR := rows_len hR
      refine ⟨l, rfl, ⟨_, SqL.of hl⟩, for_list (K := K) (a := l) (xs := refs.map V.ref) (fun j σ H' => ∃ (frefs : List Addr) (x4 x5 x6 : Option V), σ = [some (.ref m), some (.int (n : Int)), some (.ref f), some (.int (i : Int)), x4, x5, x6] ∧ H' f = some (.lst (frefs.map V.ref)) ∧
          RowsAt K false H' frefs (gath n i ++ ((roots i).take j).flatMap fun r => (outs (n : Int) r).mergeSort rle) ∧ H' l = some (.lst (refs.map V.ref)) ∧ RowsAt K false H' refs (roots i) ∧ MillC H' m c cells (t0 + 24 * i + 4 * j) ∧ But m H H')
        ⟨frefs, x4, x5, x6, rfl, s2 _ _ hf, by rw [List.take_zero, List.flatMap_nil, List.append_nil]; exact rows_same s2 hF, hl, hR, mk.same s2, bt.same s2⟩ (fun j σ H' _ ⟨_, _, _, _, _, _, _, h, _⟩ => SqL.of h) ?_ ?_⟩
      · rintro j y σ H3 e ⟨frefs, x4, x5, x6, rfl, hf, hF, hl, hR, mk, bt⟩
        rw [List.getElem?_map] at e
        cases er : refs[j]? with
        | none => rw [er] at e; cases e
        | some a =>
        rw [er] at e
        cases e
        obtain ⟨r, erow, hrow⟩ := rows_get hR er
        have hj : j < 6 := by have := (List.getElem?_eq_some_iff.mp erow).1; omega
        have hmem := List.mem_of_getElem? erow
        have rt := hroot r hmem
        have am : a ≠ m := by
          obtain ⟨turn, left, em, _⟩ := mk.at_
          rcases hrow with (h | ⟨o, h⟩) | ⟨o, its, k, h, _⟩
          · refine ne_of h em (fun z => ?_)
            injection z with z
            have h4 := rt.f.len
            cases r with
            | nil => cases h4
            | cons x r => injection z with z1 z2; cases z1
          · exact ne_of h em (fun z => nomatch z)
          · have q := hfr a (List.mem_of_getElem? er)
            intro z
            obtain ⟨o1, e1⟩ := (show MillC H1 m c cells (t0 + 24 * i) from by assumption).some_
            rw [← z, q] at e1
            cases e1
        have h4 := rt.f.len
        refine ⟨_, rfl, _, rfl, m, c, cells, a, r, _, rfl, mk, by omega, hrow, am, by omega, fun bl b' H4 hperm nbl hbl mk4 bt4 => ?_⟩
        have rb := rt.perm hperm.symm
        intro x dx nx ndx nex
        have bx : bl ≠ x := ne_of_none hbl nx
        have bdx : bl ≠ dx := ne_of_none hbl ndx
        refine ⟨x, bl, dx, b', rfl, upd_same, by rw [upd_ne bx, upd_ne bdx]; exact hbl, rb.f, rb.g, by have := rb.lo.s; omega, fun H5 keep F5 => ⟨rfl, ?_⟩⟩
        have s45 : Same H4 H5 := same_make nx ndx keep
        refine ⟨_, rfl, _, _, rfl, .inr (.inr ⟨x, b', b', 0, n, rfl, rfl, by omega, by omega, F5, rb.f, rb.dn, rb.lo, fun z => by omega, fun _ u refs' R H6 s56 hu hR' tl => ?_⟩)⟩
        have hn0 : (0 : Int) < (n : Int) := by omega
        have tl2 := (tl.perm rb.f hn0 hperm).one (outs_tells rt.f hn0)
        rw [tl2] at hR'
        have s46 := s45.trans s56
        -- what stands
        have ne1 : ∀ row, row ∈ gath n i ++ ((roots i).take j).flatMap (fun r => (outs (n : Int) r).mergeSort rle) → row ≠ [] := by
          intro row hrow
          rcases List.mem_append.mp hrow with h | h
          · unfold gath at h
            obtain ⟨s', hs', h⟩ := List.mem_flatMap.mp h
            obtain ⟨r', hr', h⟩ := List.mem_flatMap.mp h
            have hs2 := List.mem_range.mp hs'
            exact outs_ne (root_of (by omega) hr') hn0 ((List.mergeSort_perm _ _).mem_iff.mp h)
          · obtain ⟨r', hr', h⟩ := List.mem_flatMap.mp h
            exact outs_ne (hroot r' (List.mem_of_mem_take hr')) hn0 ((List.mergeSort_perm _ _).mem_iff.mp h)
        have ne2 : ∀ row, row ∈ roots i → row ≠ [] := fun row hrow z => by have := (hroot row hrow).f.len; rw [z] at this; cases this
        have f6 := s46 _ _ (bt4.keep _ _ hf fm)
        have F6 := rows_same s46 (rowsL_but mk bt4 hF ne1)
        have l6 := s46 _ _ (bt4.keep _ _ hl lm)
        have R6 := rows_same s46 (rowsL_but mk bt4 hR ne2)
        have mk6 := mk4.same s46
        have bt6 := (bt.trans bt4).same s46
        refine ⟨_, rfl, _, _, _, _, true, rfl, .ty "tuple", .base (.tup hu), kit_ty (by decide +kernel), _, rfl, iF rfl ?_⟩
        refine ⟨_, rfl, u, rfl, ⟨_, SqT.of hu⟩, fun D hD => lc_tup (K := K) (a := u) (xs := refs'.map V.ref) (fun _ H' => H' D = some (.lst []) ∧ Same H6 H') ⟨upd_same, same_upd hD⟩ (fun _ H' _ ⟨_, s⟩ => SqT.of (s _ _ hu)) ?_ ?_⟩
        · rintro k y H7 e ⟨hd, s7⟩
          rw [List.getElem?_map] at e
          cases er : refs'[k]? with
          | none => rw [er] at e; cases e
          | some qa =>
          rw [er] at e
          cases e
          obtain ⟨row, _, hrow2⟩ := rows_get hR' er
          exact ⟨rfl, _, rfl, _, _, _, _, true, rfl, .ty "tuple", tyX_T (same_T s7 hrow2), kit_ty (by decide +kernel), _, rfl, iF rfl ⟨hd, s7⟩⟩
        · rintro H7 ⟨hd, s7⟩
          refine ⟨szl (by decide), fun z nz => ?_⟩
          have s8 := same_upd nz (o := .lst [])
          refine ⟨_, _, .lst (SqL.of (s8 _ _ hd)) .nil, .lst (SqL.of upd_same) .nil, shaped_nil, shaped_nil, _, rfl, iF rfl ?_⟩
          generalize upd H7 z (.lst []) = H8 at s8
          have s68 := s7.trans s8
          refine ⟨_, rfl, .inl ⟨rfl, _, SqL.of (s68 _ _ f6)⟩, _, rfl, u, rfl, ⟨_, SqT.of (s68 _ _ hu)⟩, fun D2 hD2 => lc_tup (K := K) (a := u) (xs := refs'.map V.ref)
            (fun k H' => ∃ nr : List Addr, H' D2 = some (.lst (nr.map V.ref)) ∧ RowsAt K false H' nr (((outs (n : Int) r).mergeSort rle).take k) ∧ Same H8 H') ⟨[], upd_same, .nil, same_upd hD2⟩ (fun _ H' _ ⟨_, _, _, s⟩ => SqT.of (s _ _ (s68 _ _ hu))) ?_ ?_⟩
          · rintro k y H9 e ⟨nr, hd2, hN, s9⟩
            rw [List.getElem?_map] at e
            cases er : refs'[k]? with
            | none => rw [er] at e; cases e
            | some qa =>
            rw [er] at e
            cases e
            obtain ⟨row, erow2, hrow2⟩ := rows_get hR' er
            obtain ⟨hk, erow3⟩ := List.getElem?_eq_some_iff.mp erow2
            have hlo := outs_len rt hn0 (by omega)
            rw [List.length_mergeSort] at hk
            have hlN := rows_len hN
            rw [List.length_take, List.length_mergeSort] at hlN
            refine ⟨rfl, _, rfl, qa, _, rfl, .inr (same_T (s68.trans s9) hrow2), fun pl npl => ?_⟩
            have s10 := same_upd npl (o := .lst (row.map V.int))
            refine ⟨_, s10 _ _ hd2, by rw [List.length_map]; exact sz (by omega), nr ++ [pl], by rw [upd_same, map_snoc_ref], ?_, same_at (s9.trans s10) hD2⟩
            rw [List.take_succ_eq_append_getElem (by rw [List.length_mergeSort]; exact hk), erow3]
            refine rowsL_upd (s10 _ _ hd2) (rows_snoc (tp := false) (a := pl) (row := row) (SqL.of upd_same) (rows_same s10 hN)) (fun rw' hrw => ?_)
            have hin : rw' ∈ (outs (n : Int) r).mergeSort rle := by
              rcases List.mem_append.mp hrw with h | h
              · exact List.mem_of_mem_take h
              · rw [List.mem_singleton.mp h, ← erow3]; exact List.getElem_mem _
            exact outs_ne rt hn0 ((List.mergeSort_perm _ _).mem_iff.mp hin)
          · rintro H9 ⟨nr, hd2, hN, s9⟩
            have hlr' := rows_len hR'
            rw [List.length_map, hlr', List.take_length] at hN
            have s69 := s68.trans s9
            have lf6 := rows_len F6
            have lnr := rows_len hN
            have hg := gath_len (n := n) (i := i) (by omega) (by omega)
            have hfl := flat_len (f := fun r => (outs (n : Int) r).mergeSort rle) (k := 62) ((roots i).take j) (fun r' hr' => by rw [List.length_mergeSort]; exact outs_len (hroot r' (List.mem_of_mem_take hr')) hn0 (by omega))
            rw [List.length_append] at lf6
            rw [List.length_take] at hfl
            have hlo := outs_len rt hn0 (by omega)
            rw [List.length_mergeSort] at lnr
            have hmin : 62 * min j (roots i).length ≤ 62 * 6 := Nat.mul_le_mul_left _ (by omega)
            have f9 := s69 _ _ f6
            refine ⟨f, D2, _, _, rfl, rfl, f9, hd2, by rw [List.length_map, List.length_map, sizeLine_eq]; omega, ?_⟩
            have e9 : RowsAt K false H9 (frefs ++ nr) (gath n i ++ ((roots i).take (j + 1)).flatMap fun r => (outs (n : Int) r).mergeSort rle) := by
              rw [take_flat erow, ← List.append_assoc]
              exact rows_app (rows_same s69 F6) hN
            have ne3 : ∀ row, row ∈ gath n i ++ ((roots i).take (j + 1)).flatMap (fun r => (outs (n : Int) r).mergeSort rle) → row ≠ [] := by
              intro row hrow
              rw [take_flat erow, ← List.append_assoc] at hrow
              rcases List.mem_append.mp hrow with h | h
              · exact ne1 row h
              · exact outs_ne rt hn0 ((List.mergeSort_perm _ _).mem_iff.mp h)
            refine ⟨frefs ++ nr, _, _, _, rfl, by rw [upd_same, List.map_append], rowsL_upd f9 e9 ne3, by rw [upd_ne lf]; exact s69 _ _ l6, rowsL_upd f9 (rows_same s69 R6) ne2, ((mk6.same s69).up (by omega)).upd_at fm fc, (bt6.same s69).upd_at nf fm⟩
      · rintro σ H3 ⟨frefs, x4, x5, x6, rfl, hf, hF, hl, hR, mk, bt⟩
        refine ⟨frefs, _, _, _, _, rfl, hf, ?_, mk.up (by rw [List.length_map]; omega), bt⟩
        rw [List.length_map, hlR, List.take_length] at hF
        rw [gath_succ]; exact hF
    · rintro σ H1 ⟨frefs, x3, x4, x5, x6, rfl, hf, hF, mk, bt⟩
      refine ⟨_, rfl, f, frefs, gath n n, rfl, SqL.of hf, hF, (fun z => nomatch z), fun refs' p hR' np => ?_⟩
      have sp := same_upd np (o := .lst (refs'.map V.ref))
      refine ⟨_, rfl, n, rfl, by omega, fun l refs H2 s2 nl hl hRr hfr => ?_⟩
      refine ⟨l, refs, roots n, rfl, SqL.of hl, hRr, (fun z => nomatch z), fun refs2 p2 hR2 np2 => ?_⟩
      have sp2 := same_upd np2 (o := .lst (refs2.map V.ref))
      have s12 := sp.trans (s2.trans sp2)
      rw [rows_one (gath_all n1 n16)] at hR'
      refine ⟨_, _, .lst (SqL.of (sp2 _ _ (s2 _ _ upd_same))) (dp_rows (rows_same s12 hR')), .lst (SqL.of upd_same) (dp_rows (rows_same sp2 hR2)), shaped_rows false false _, shaped_rows false false _, ?_⟩
      have ee : PyData.eqv (.list (((roots n).mergeSort rle).map (encR false))) (.list (((roots n).mergeSort rle).map (encR false))) = true := eqv_refl_rows false false _
      rw [ee]
      exact q _ ((mk.same s12).up (by omega)) (bt.same s12)
end
end BS
namespace BS
open PySem PySem.Spec PyProof.Rows L2
/-- a def that keeps its promise where no repr is under way -/
structure FnG (P : Program) (w : World) (K : PySem.W.Frag) (mg : Str → Option Value) (base : Heap) (k : Nat) (f : Addr) (fd : FuncData) (ps : List Str) (sp : Sp) : Prop where
  len : ∀ vs H Q E, sp vs H Q E → vs.length = ps.length
  run : ∀ (A : Around) (outer : List Env) (s : Shared) (H : Hp) (args : Args) (us : List Value) (vs : List V) (Q : VK) (E : XK), A.guards = some [] → Room k A → Env0 P w K mg base A outer s H → BindsTo s fd args (ps.zip us) → Vals vs us → sp vs H Q E →
    codeAny (model P w) A (.call (.ref f) args) (CR CX0 outer P w H s Q E) s
theorem Fun.okG {P : Program} {w : World} {K : PySem.W.Frag} {mg : Str → Option Value} {base : Heap} {x qual : Str} {st : Stmt} {f : Addr} {fd : FuncData} {N ps : List Str} {k : Nat} {sp : Sp} (Fu : L2.Fun K x qual st f fd) (S : FnScope N ps (defScope st)) (len : ∀ vs H Q E, sp vs H Q E → vs.length = ps.length)
    (hbody : ∀ (cdv : Value) (A : Around) (outer : List Env) (s : Shared) (H : Hp) (vs : List V) (Q : VK) (E : XK), A.guards = some [] → Room k (A.deeper (envOfC qual (defScope st) s.heap.objs.size f cdv)) → sp vs H Q E →
      ∃ t, PSs (cxOf CX0 P w K mg base N qual (defScope st) f cdv A outer s H E).nox (defBody st) t ∧ t { nx := fun _ H' => Q .non H', rt := Q } (L2.start N vs) H) : FnG P w K mg base (k + 1) f fd ps sp := by
  obtain ⟨oc, od, kV, doc, pm, an, cdv, ct, osl, rfl, lk, hcd⟩ := Fu.ex
  refine ⟨len, fun A outer s H args us vs Q E hg hr e0 hb r hsp => ?_⟩
  refine LamX.run_ofS lk hcd S hr e0 hb r (len _ _ _ _ hsp) fun hr' => ?_
  obtain ⟨t, h, q⟩ := hbody cdv A outer s H vs Q E hg hr' hsp
  exact ⟨t, h.nox, q⟩
section
variable {X : Cx} {k : Nat} {f : Addr} {fd : FuncData} {ps : List Str} {sp : Sp} {dvs : List V} {ds : List Value} {E : XK} {x : Str} {p pos : Pos} {e : Expr} {es : List Expr} {t : TA}
theorem run_fnG {pins : List (Addr × Obj)} {σ : L2.St} {H : Hp} {s : Shared} {Q : VK} {us : List Value} {vs : List V} (F : FnG X.prog X.w X.K X.mg X.base k f fd ps sp) (hg : X.A.guards = some []) (hr : Room k X.A) (hb : Binds X.K fd ps ds) (hd : Vals dvs ds)
    (I : Inv X pins σ H s) (r : Vals vs us) (h : sp (vs ++ dvs) H Q E0) : wpAny (model X.prog X.w) X.A (call (.ref f) us) (EP X pins σ Q) X.xe s := by
  have r2 : Vals (vs ++ dvs) (us ++ ds) := r.append hd
  have hl : (us ++ ds).length = ps.length := by rw [← r2.length]; exact F.len _ _ _ _ h
  refine wpAny_call (codeAny_mono (F.run X.A X.stack s H ⟨us, []⟩ (us ++ ds) (vs ++ dvs) Q E0 hg hr I.env0 (hb s us I.kIn hl) r2 h) fun r s' hq => ?_)
  cases r with
  | error e => exact (show False from hq).elim
  | ok fl =>
    cases fl with
    | ret u => exact I.after hq
    | next => exact False.elim hq
    | brk => exact False.elim hq
    | cont => exact False.elim hq
theorem pe_callG (F : FnG X.prog X.w X.K X.mg X.base k f fd ps sp) (hgd : X.A.guards = some []) (hr : Room k X.A) (hg : Gl X x) (hm : X.mg x = some (.ref f)) (hk : PySem.W.keepIn X.K (.ref f) = true) (hb : Binds X.K fd ps ds) (hd : Vals dvs ds)
    (ha : PA X (e :: es) t) (hdb : (x == ("__debug__" : Str)) = false := by decide) (he : starEach (e :: es) X.env = (false, eval e X.env) :: starEach es X.env := by rfl) (hpl : (backTo pos (starEach es X.env)).any (·.1) = false := by rfl) :
    PE X (.Call (.Name x p) (e :: es) [] pos) (tCall sp dvs E0 t) := by
  refine ⟨fun pins s σ H Q I h => ?_⟩
  refine wpAny_Call_Name_kw (ld_glob I hg hm ?_ hdb)
  refine PySem.W.callWith_K (h₀ := X.base) I.ok.mod.kin hk (thn (ha.run pos pins s σ H _ I h) fun us s1 ⟨vs, H1, I1, r, q⟩ => ⟨I1.kIn, ?_⟩) he hpl
  exact run_fnG F hgd hr hb hd I1 r q
/-- f(k = v, ..), nothing by position -/
theorem pe_callK0 {CX : CXT} {ks : List Str} {kws : List Keyword} {tk : TA} {g : List Value → List Value → List Value} {gV : List V → List V → List V} (F : FnOk X.prog X.w X.K X.mg X.base CX k f fd ps sp) (hr : Room k X.A) (hg : Gl X x) (hm : X.mg x = some (.ref f)) (hk : PySem.W.keepIn X.K (.ref f) = true) (hb : KBinds X.K fd ps ks g gV) (hx : Passes CX X E)
    (hkw : PK X kws tk) (hall : (backToKw pos (keywordEach kws X.env)).all (·.1.isSome) = true := by rfl) (hks : (backToKw pos (keywordEach kws X.env)).filterMap (·.1) = ks := by rfl)
    (hdb : (x == ("__debug__" : Str)) = false := by decide) (hpl : ((backTo pos (starEach [] X.env)).any (·.1) || (backToKw pos (keywordEach kws X.env)).any (·.1.isNone)) = false := by rfl) :
    PE X (.Call (.Name x p) [] kws pos) (fun σ H Q => tk σ H fun zs H2 => sp (gV [] zs) H2 Q E) := by
  refine ⟨fun pins s σ H Q I h => ?_⟩
  refine wpAny_Call_Name_kw (ld_glob I hg hm ?_ hdb)
  refine PySem.W.callWith_KW0 (h₀ := X.base) I.ok.mod.kin hk hall (thn (hkw.run pos pins s σ H _ I h) fun ws s2 ⟨zs, H2, I2, rz, q2⟩ => ⟨I2.kIn, ?_⟩) hpl
  rw [hks]
  exact run_fnk (us := []) (vs := []) F hr hb hx I2 .nil rz q2
end
/-! ### repr of a tuple of rows -/
theorem piled_le {k : Nat} : ∀ ts : List Str, (∀ t, t ∈ ts → t.length ≤ k) → piled ts ≤ (k + 2) * ts.length
  | [], _ => Nat.zero_le _
  | x :: r, h => by
    have h1 := h x (List.mem_cons_self ..)
    have h2 := piled_le r (fun y hy => h y (List.mem_cons_of_mem _ hy))
    rw [List.length_cons, Nat.mul_succ]
    show x.length + 2 + piled r ≤ _
    omega
theorem tuple_text_le {k : Nat} {ts : List Str} (h : ∀ t, t ∈ ts → t.length ≤ k) : (tupleText ts).length ≤ (k + 2) * ts.length + 5 := by
  have h1 : (Str.join ", " ts).length ≤ (k + 2) * ts.length := by
    by_cases e : ts = []
    · subst e; exact Nat.le_trans (show (Str.join ", " ([] : List Str)).length ≤ 0 by decide) (Nat.zero_le _)
    · have := join_length_add ts e
      have := piled_le ts h
      omega
  unfold tupleText
  have l1 : (("(" : Str)).length = 1 := by decide
  have l2 : ((if ts.length == 1 then ",)" else ")" : String) : Str).length ≤ 2 := by split <;> decide
  have la : ∀ a b : Str, (a ++ b).length = a.length + b.length := fun a b => by
    show (a.cps ++ b.cps).size = _
    rw [Array.size_append]; rfl
  rw [la, la, l1]
  omega
theorem shown_row {row : List Int} (h : ∀ x, x ∈ row → x.natAbs < 10 ^ 3) (h4 : row.length ≤ 4) : (PyData.shown (encR true row)).length ≤ 29 := by
  have hm : ∀ (r : List Int), (∀ x, x ∈ r → x.natAbs < 10 ^ 3) → (∀ t, t ∈ PyData.shownAll (r.map PyData.int) → t.length ≤ 4) ∧ (PyData.shownAll (r.map PyData.int)).length = r.length := by
    intro r
    induction r with
    | nil => intro _; exact ⟨fun t ht => by simp [PyData.shownAll] at ht, by simp [PyData.shownAll]⟩
    | cons x r ih =>
      intro hx
      obtain ⟨i1, i2⟩ := ih (fun y hy => hx y (List.mem_cons_of_mem _ hy))
      have hx1 := hx x (List.mem_cons_self ..)
      have e : PyData.shownAll ((x :: r).map PyData.int) = Str.ofString (toString x) :: PyData.shownAll (r.map PyData.int) := by
        rw [List.map_cons, PyData.shownAll, PyData.shown]
      rw [e]
      refine ⟨fun t ht => ?_, by rw [List.length_cons, i2, List.length_cons]⟩
      rcases List.mem_cons.mp ht with rfl | ht
      · have := int_text_length_le10 (k := 3) (by decide) hx1
        rw [PySem.ofString_length]
        exact this
      · exact i1 t ht
  obtain ⟨m1, m2⟩ := hm row h
  have e : PyData.shown (encR true row) = tupleText (PyData.shownAll (row.map PyData.int)) := by
    show PyData.shown (.tuple (row.map .int)) = _
    simp [PyData.shown]
  rw [e]
  have := tuple_text_le m1
  rw [m2] at this
  have : (4 + 2) * row.length ≤ 24 := by omega
  omega
theorem showable_row {row : List Int} (h : ∀ x, x ∈ row → x.natAbs < 10 ^ 3) : (encR true row).showable = true := by
  have hm : ∀ (r : List Int), (∀ x, x ∈ r → x.natAbs < 10 ^ 3) → PyData.showableAll (r.map PyData.int) = true := by
    intro r
    induction r with
    | nil => intro _; rw [List.map_nil, PyData.showableAll]
    | cons x r ih =>
      intro hx
      have hx1 := hx x (List.mem_cons_self ..)
      rw [List.map_cons, PyData.showableAll, ih (fun y hy => hx y (List.mem_cons_of_mem _ hy)), PyData.showable, Bool.and_true]
      refine decide_eq_true (Nat.lt_of_le_of_lt (Nat.log2_le_self _) (by omega))
  show PyData.showable (.tuple (row.map .int)) = true
  rw [PyData.showable]
  exact hm row h
theorem showable_rows : ∀ {rows : List (List Int)}, (∀ row, row ∈ rows → ∀ x, x ∈ row → x.natAbs < 10 ^ 3) → PyData.showableAll (rows.map (encR true)) = true
  | [], _ => by rw [List.map_nil, PyData.showableAll]
  | r :: rs, h => by rw [List.map_cons, PyData.showableAll, showable_row (h r (List.mem_cons_self ..)), showable_rows (fun y hy => h y (List.mem_cons_of_mem _ hy))]; rfl
theorem shownAll_rows : ∀ {rows : List (List Int)}, (∀ row, row ∈ rows → row.length ≤ 4 ∧ ∀ x, x ∈ row → x.natAbs < 10 ^ 3) → (∀ t, t ∈ PyData.shownAll (rows.map (encR true)) → t.length ≤ 29) ∧ (PyData.shownAll (rows.map (encR true))).length = rows.length
  | [], _ => by rw [List.map_nil, PyData.shownAll]; exact ⟨fun t ht => absurd ht List.not_mem_nil, rfl⟩
  | r :: rs, h => by
    obtain ⟨i1, i2⟩ := shownAll_rows (rows := rs) (fun y hy => h y (List.mem_cons_of_mem _ hy))
    obtain ⟨h1, h2⟩ := h r (List.mem_cons_self ..)
    rw [List.map_cons, PyData.shownAll]
    refine ⟨fun t ht => ?_, by rw [List.length_cons, i2, List.length_cons]⟩
    rcases List.mem_cons.mp ht with rfl | ht
    · exact shown_row h2 h1
    · exact i1 t ht
/-- the text of a tuple of rows -/
def txtR (rows : List (List Int)) : Str := PyData.shown (encS true true rows)
theorem txtR_len {rows : List (List Int)} (h : ∀ row, row ∈ rows → row.length ≤ 4 ∧ ∀ x, x ∈ row → x.natAbs < 10 ^ 3) (hn : rows.length ≤ 1000) : (txtR rows).length ≤ sizeLine := by
  obtain ⟨i1, i2⟩ := shownAll_rows h
  have e : txtR rows = tupleText (PyData.shownAll (rows.map (encR true))) := by
    show PyData.shown (.tuple (rows.map (encR true))) = _
    rw [PyData.shown]
  rw [e, sizeLine_eq]
  have := tuple_text_le i1
  rw [i2] at this
  have : (29 + 2) * rows.length ≤ 31 * 1000 := Nat.mul_le_mul_left _ hn
  omega
theorem rows_reads {X : Cx} {pins : List (Addr × Obj)} {σ : L2.St} {H : Hp} {s : Shared} (I : Inv X pins σ H s) : ∀ {refs : List Addr} {rows : List (List Int)} {us : List Value}, RowsAt X.K true H refs rows → Vals (refs.map V.ref) us → ∃ as, ReadsAll s.heap us (rows.map (encR true)) as
  | [], _, _, .nil, .nil => ⟨_, .nil⟩
  | _ :: _, _, _, .cons h t, .cons r u => by
    obtain ⟨as, q⟩ := rows_reads I t u
    cases r
    obtain ⟨bs, q2⟩ := row_reads I h
    exact ⟨_, .cons q2 q⟩
def rReprT (K : PySem.W.Frag) : List V → Hp → VK → Prop := fun vs H Q => ∃ (a : Addr) (refs : List Addr) (rows : List (List Int)), vs = [V.ref a] ∧ SqT K H a (refs.map V.ref) ∧ RowsAt K true H refs rows ∧ (∀ row, row ∈ rows → row.length ≤ 4 ∧ ∀ x, x ∈ row → x.natAbs < 10 ^ 3) ∧ rows.length ≤ 1000 ∧ Q (.str (txtR rows)) H
theorem cr_reprT {X : Cx} {k : Nat} (hg : X.A.guards = some []) (hr : Room k X.A) : CallR X (.builtin "repr") (rReprT X.K) := by
  intro pins s σ H vs us Q I r h
  obtain ⟨a, refs, rows, rfl, hs, hR, hb, hn, q⟩ := h
  rw [Vals.ref1 r]
  obtain ⟨its, rv, ⟨o, ho, hc, n, hd⟩, _⟩ := I.tuple hs
  obtain ⟨as, rd⟩ := rows_reads I hR rv
  have R : Reads s.heap (.ref a) (encS true true rows) as := .tuple ho hc hd rd
  have hun := hr.un
  have hdep := depth_rows true rows
  refine repr_of_reads' R ?_ (fun z => ?_) hg ?_ (fun b o e => e) (fun h' u tk hk => ⟨.str (txtR rows), H, I.kept hk, ⟨u, rfl⟩, q⟩) (txtR_len hb hn)
  · show PyData.showable (.tuple (rows.map (encR true))) = true
    rw [PyData.showable]
    exact showable_rows (fun row hrow => (hb row hrow).2)
  · rw [PyData.hasDict_of_canLay _ (SeqAt.canLay_of_shaped (shaped_rows true true rows))] at z
    cases z
  · show X.A.units + (PyData.depth (.tuple (rows.map (encR true))) + 1) < cLine
    have : PyData.depth (.tuple (rows.map (encR true))) ≤ 2 := by simp only [PyData.depth]; omega
    omega
end BS
namespace BS
open PySem PySem.Spec PyProof.Rows L2
theorem Dn.sum_le {b l : List Int} {k : Nat} (d : Dn b k l) : IsF b → l.sum ≤ b.sum := by
  induction d with
  | stop h => intro _; exact Int.le_refl _
  | @step b l k p h d ih =>
    intro f
    obtain ⟨hp, hl⟩ := lowP_lt h
    have h1 := ih (isF_sw f hp)
    rw [sum_sw f.len hp] at h1
    omega
/-- the rows told are small -/
theorem tells_small {n : Int} {r : List Int} {R : List (List Int)} (h : Root r) (n1 : 1 ≤ n) (n60 : n ≤ 60) (t : Tells n r R) : (∀ row, row ∈ R.mergeSort rle → row.length ≤ 4 ∧ ∀ x, x ∈ row → x.natAbs < 10 ^ 3) ∧ (R.mergeSort rle).length ≤ 1000 := by
  have hn0 : 0 < n := by omega
  rw [t.one (outs_tells h.f hn0)]
  refine ⟨fun row hrow => ?_, by rw [List.length_mergeSort]; exact Nat.le_trans (outs_len h hn0 n60) (by decide)⟩
  have hr := (List.mergeSort_perm _ _).mem_iff.mp hrow
  obtain ⟨l, hl, rfl⟩ := (outs_mem h.f hn0).mp hr
  have fl := hl.isF h.f hn0
  refine ⟨by rw [(srt_perm l).length_eq, fl.len]; exact Nat.le_refl _, fun x hx => ?_⟩
  have hx2 := (srt_perm l).mem_iff.mp hx
  have hb := bend_le fl hx2
  obtain ⟨b, p, k, tb, hp, e, d⟩ := hl
  have fb := tb.isF h.f
  have ft := isF_tn fb hp (by have := fb.pos; omega)
  have h1 := d.sum_le ft
  rw [sum_tn fb.len hp, e] at h1
  have h2 := tb.sum h.f
  have h3 := h.lo.s
  rcases h2 with rfl | h2 <;> omega
/-- behind n exchanges from a root -/
structure Near (r b : List Int) (n : Nat) : Prop where
  f : IsF b
  g : gcd4 b = 1
  d : ∃ k, k ≤ n ∧ Dn b k r
  s : b.sum ≤ 546 * 7 ^ n
theorem Near.step {r b : List Int} {n p : Nat} (h : Near r b n) (hp : p < 4) : Near r (sw b p) (n + 1) := by
  obtain ⟨k, hk, d⟩ := h.d
  obtain ⟨k', d', hk'⟩ := dn_sw h.f d hp
  refine ⟨isF_sw h.f hp, gcd4_sw h.f.len hp h.g, ⟨k', by omega, d'⟩, ?_⟩
  have hm : b.getD p 0 ∈ b := by rw [List.getD_eq_getElem?_getD, List.getElem?_eq_getElem (by rw [h.f.len]; exact hp)]; exact List.getElem_mem _
  have hb := bend_le h.f hm
  have hs := h.s
  rw [sum_sw h.f.len hp, Int.pow_succ]
  omega
theorem Near.steps {r : List Int} : ∀ (ps : List Nat) {b : List Int} {n : Nat}, Near r b n → (∀ p ∈ ps, p < 4) → Near r (steps b ps) (n + ps.length)
  | [], b, n, h, _ => h
  | p :: q, b, n, h, hp => by
    have := Near.steps q (h.step (hp p (List.mem_cons_self ..))) (fun x hx => hp x (List.mem_cons_of_mem _ hx))
    rw [show n + (p :: q).length = n + 1 + q.length from by rw [List.length_cons]; omega]
    exact this
theorem Root.near {r : List Int} (h : Root r) : Near r r 0 := ⟨h.f, h.g, ⟨0, Nat.le_refl _, h.dn⟩, by have := h.lo.s; omega⟩
theorem Near.small {r b : List Int} {n : Nat} (h : Near r b n) (hn : n ≤ 9) : b.sum < 1099511627776 := by
  have h1 : (7 : Int) ^ n ≤ 7 ^ 9 := by
    have : 7 ^ n ≤ 7 ^ 9 := Nat.pow_le_pow_right (by decide) hn
    exact_mod_cast this
  have h2 := h.s
  omega
def spOne : Sp := fun vs H Q _ => ∃ (m c : Addr) (cells : List Int) (t0 : Nat), vs = [.ref m] ∧ MillC H m c cells t0 ∧ t0 + 1000 < 1000000 ∧
  ∀ H', MillC H' m c cells (t0 + 100) → But m H H' → Q (.bl true) H'
abbrev nOne : List Str := ["_law_mill_here", "_law_low", "_law_bends", "_law_near", "_law_wanted", "_law_four", "_law_told", "_law_letter", "_law_bend"]
section
variable {P : Program} {w : World} {K : PySem.W.Frag} {mg : Str → Option Value} {base : Heap}
theorem scOne : FnScope nOne ["_law_mill_here"] (defScope sOne) := ⟨rfl, rfl, rfl, by decide +kernel, rfl, by decide +kernel, by decide +kernel⟩
theorem ok_one {f CF fI CB CN CT fO : Addr} {fd fdI fdO : FuncData} (Fu : Fun K "_law_one_right" "_law_one_right" sOne f fd) (B : Blt mg) (TF : FourTxt K mg CF) (M : Mk K CF fI) (GF : FnOk P w K mg base CX0 4 fI fdI ["self", "bends"] (spFour CF)) (bF : Binds K fdI ["self", "bends"] [])
    (cS : Cal P w K mg base CX0 2 "_law_stirred" ["_law_mill_here", "_law_some"] (spStir K)) (cR : Cal P w K mg base CX0 2 "_law_roots" ["_law_size"] (spRoots K)) (cP : Cal P w K mg base CX0 2 "_law_pick" ["_law_mill_here", "_law_some"] (spPick K))
    (cG : Cal P w K mg base CX0 1 "_law_grain" ["_law_mill_here", "_law_many"] spGrain) (cA : Cal P w K mg base CX0 2 "_law_along" ["_law_bends", "_law_word"] (spAlong K)) (cL : Cal P w K mg base CX0 3 "_law_out" ["_law_bends", "_law_wanted"] (spLOut K))
    (mO : mg "turned_out" = some (.ref fO)) (kO : PySem.W.keepIn K (.ref fO) = true) (bO : Binds K fdO ["four", "bend"] []) (kbO : KBinds K fdO ["four", "bend"] ["bend", "four"] (fun us ws => us ++ (match ws with | [a, b] => [b, a] | l => l)) (fun us ws => us ++ (match ws with | [a, b] => [b, a] | l => l)))
    (GO : FnOk P w K mg base (L2.CX P w) 4 fO fdO ["four", "bend"] (spOut K CF CB CN CT)) :
    FnG P w K mg base 6 f fd ["_law_mill_here"] spOne := by
  obtain ⟨fS, fdS, mS, kS, bS, GS⟩ := cS
  obtain ⟨fR, fdR, mR, kR, bR, GR⟩ := cR
  obtain ⟨fP, fdP, mP, kP, bP, GP⟩ := cP
  obtain ⟨fG, fdG, mG, kG, bG, GG⟩ := cG
  obtain ⟨fA, fdA, mA, kA, bA, GA⟩ := cA
  obtain ⟨fL, fdL, mL, kL, bL, GL⟩ := cL
  refine Fun.okG Fu scOne (fun vs H Q E h => ?_) (fun cdv A outer s H vs Q E hgA hr h => ?_)
  · obtain ⟨m, c, cells, t0, rfl, _⟩ := h
    rfl
  · obtain ⟨m, c, cells, t0, rfl, hm, ht0, q⟩ := h
    have hgd : (A.deeper (envOfC "_law_one_right" (defScope sOne) s.heap.objs.size f cdv)).guards = some [] := hgA
    have hr1 : Room 1 _ := hr.mono (by decide)
    have hr2 : Room 2 _ := hr.mono (by decide)
    have hr3 : Room 3 _ := hr.mono (by decide)
    have hr4 : Room 4 _ := hr.mono (by decide)
    refine ⟨_, pss_cons (ps_set (i := 1) scOne.nd rfl (Or.inl rfl) (pe_call GS hr2 rfl mS kS bS .nil pass0 (pa_cons (pv 0) (pa_cons (pe_call GP hr2 rfl mP kP bP .nil pass0 (pa_cons (pv 0) (pa_cons (pe_call GR hr2 rfl mR kR bR .nil pass0 (pa_cons (pe_call GP hr2 rfl mP kP bP .nil pass0 (pa_cons (pv 0) (pa_cons (pe_lst (pa_cons pe_int (pa_cons pe_int (pa_cons pe_int (pa_cons pe_int (pa_cons pe_int (pa_cons pe_int (pa_cons pe_int (pa_cons (pe_call GG hr1 rfl mG kG bG .nil pass0 (pa_cons (pv 0) (pa_cons pe_int pa_nil))) pa_nil))))))))) pa_nil))) pa_nil)) pa_nil))) pa_nil))))
      (pss_cons (ps_set (i := 2) scOne.nd rfl (Or.inl rfl) (pe_call GA hr2 rfl mA kA bA .nil pass0 (pa_cons (pv 1) (pa_cons (pe_lc (own := [("_law_letter", 7)]) (g := gName 7) (tt := tYes) rfl scOne.nd (pi_range1 rfl B.range (pa_cons (pe_call GP hr2 rfl mP kP bP .nil pass0 (pa_cons (pv 0) (pa_cons (pe_lst (pa_cons pe_int (pa_cons pe_int (pa_cons pe_int pa_nil)))) pa_nil))) pa_nil)) (blkOk_by (N := nOne) (sc := defScope sOne) (by decide +kernel)) (fun _ _ _ _ _ => pg_name (i := 7) scOne.nd rfl (Or.inl rfl)) (fun _ _ _ _ _ => pts_nil) (fun _ _ _ _ _ => (pe_call GG hr1 rfl mG kG bG .nil pass0 (pa_cons (pv 0) (pa_cons pe_int pa_nil))))) pa_nil))))
      (pss_cons (ps_setLc (i := 3) (own := [("_law_bend", 8)]) (g := gName 8) rfl scOne.nd rfl rfl (sw_true rfl rfl rfl (by decide +kernel)) (pi_list (pe_op op_cat (pv 2) (pv 1))) (blkOk_by (N := nOne) (sc := defScope sOne) (by decide +kernel)) (fun _ _ _ _ _ => pg_name (i := 8) scOne.nd rfl (Or.inl rfl)) (fun _ _ _ _ _ => pts_one (pt_chain op_le op_le pe_int (pv 8) pe_int)) (fun _ _ _ _ _ => pv 8))
      (pss_cons (ps_set (i := 4) scOne.nd rfl (Or.inl rfl) (pe_call GP hr2 rfl mP kP bP .nil pass0 (pa_cons (pv 0) (pa_cons (pe_op op_cat (pv 3) (pe_lst (pa_cons (pe_op op_add pe_int (pe_call GG hr1 rfl mG kG bG .nil pass0 (pa_cons (pv 0) (pa_cons pe_int pa_nil)))) (pa_cons pe_int (pa_cons pe_int (pa_cons pe_int pa_nil)))))) pa_nil))))
      (pss_cons (ps_set (i := 5) scOne.nd rfl (Or.inl rfl) (pe_make M GF hr rfl TF.gC bF .nil pass0 (pa_cons (pv 2) pa_nil)))
      (pss_cons (ps_set (i := 6) scOne.nd rfl (Or.inl rfl) (pe_callK0 (E := E0) GO hr4 rfl mO kO kbO (passF rfl rfl) (pk_cons (pv 4) (pk_cons (pv 5) pk_nil))))
      (pss_one (ps_ret (pe_and (pe_cmpR op_eq (pe_callB (cr_reprT hgd hr) (by rfl) B.repr (by decide +kernel) (pa_cons (pv 6) pa_nil)) (pe_callB (cr_reprT hgd hr) (by rfl) B.repr (by decide +kernel) (pa_cons (pe_callTy call_tuple_of (by rfl) B.tuple (by decide +kernel) (pa_cons (pe_call GL hr3 rfl mL kL bL .nil pass0 (pa_cons (pv 2) (pa_cons (pv 4) pa_nil))) pa_nil)) pa_nil)) (nomark _)) (pe_one (pe_cmpR (op_eqD hr.units) (pe_call (E := E0) GO hr4 rfl mO kO bO .nil (passF rfl rfl) (pa_cons (pe_make M GF hr rfl TF.gC bF .nil pass0 (pa_cons (pv 1) pa_nil)) (pa_cons (pv 4) pa_nil))) (pv 6) (nomark _))))))))))), ?_⟩
    have ne_m : ∀ {Hx : Hp} {n : Nat} {a : Addr}, MillC Hx m c cells n → Hx a = none → a ≠ m ∧ a ≠ c := fun mk e => ⟨by obtain ⟨o, h⟩ := mk.some_; exact (ne_of_none h e).symm, (ne_of_none mk.cs e).symm⟩
    -- low
    refine ⟨_, rfl, _, rfl, _, rfl, _, rfl, m, c, cells, 13, t0, rfl, hm, by omega, by decide, by decide, fun v H1 hv mk1 bt1 => ?_⟩
    refine ⟨szl (by show 8 < 1000; omega), fun l2 nl2 => ?_⟩
    have sl2 := same_upd nl2 (o := .lst [.int 0, .int 0, .int 1, .int 2, .int 3, .int 1, .int 6, .int (v : Int)])
    refine ⟨m, c, cells, l2, _, _, rfl, mk1.same sl2, by omega, SqL.of upd_same, (ne_m mk1 nl2).1, by show 0 < 8; omega, by show 8 < 1000; omega, fun i x H2 hx mk2 bt2 => ?_⟩
    obtain ⟨sz0, hsz, rfl⟩ : ∃ z : Nat, z ≤ 12 ∧ x = .int (z : Int) := by
      have hmem := List.mem_of_getElem? hx
      simp only [List.mem_cons, List.not_mem_nil, or_false] at hmem
      rcases hmem with rfl | rfl | rfl | rfl | rfl | rfl | rfl | rfl
      · exact ⟨0, by omega, rfl⟩
      · exact ⟨0, by omega, rfl⟩
      · exact ⟨1, by omega, rfl⟩
      · exact ⟨2, by omega, rfl⟩
      · exact ⟨3, by omega, rfl⟩
      · exact ⟨1, by omega, rfl⟩
      · exact ⟨6, by omega, rfl⟩
      · exact ⟨v, by omega, rfl⟩
    refine ⟨sz0, rfl, by omega, fun lr refs H3 s3 nlr hlr hR hfr => ?_⟩
    have hrn := roots_n (show sz0 ≤ 16 by omega)
    have hlR := rows_len hR
    have mk3 := mk2.same s3
    refine ⟨m, c, cells, lr, _, _, rfl, mk3, by omega, SqL.of hlr, (ne_m mk2 nlr).1, by rw [List.length_map]; omega, by rw [List.length_map]; omega, fun i4 x4 H4 hx4 mk4 bt4 => ?_⟩
    rw [List.getElem?_map] at hx4
    cases er : refs[i4]? with
    | none => rw [er] at hx4; cases hx4
    | some a =>
    rw [er] at hx4
    cases hx4
    obtain ⟨r, erow, hrow⟩ := rows_get hR er
    have rt : Root r := root_of (by omega) (List.mem_of_getElem? erow)
    have ner : r ≠ [] := fun z => by have := rt.f.len; rw [z] at this; cases this
    have am : a ≠ m := (ne_m mk2 (hfr a (List.mem_of_getElem? er))).1
    have h4 := rt.f.len
    refine ⟨m, c, cells, a, r, _, rfl, mk4, by omega, rowL_but hrow ner mk3 bt4, am, by omega, fun ll b' H5 hperm nll hll mk5 bt5 => ?_⟩
    have rb := rt.perm hperm.symm
    have hbl := rb.f.len
    rw [h4] at mk5
    have b01 : But m H H1 := bt1
    have b05 : But m H H5 := (((((bt1.same sl2).trans bt2).same s3).trans bt4).trans bt5)
    have lm := (ne_m mk4 nll)
    -- bends
    refine ⟨_, rfl, _, rfl, szl (by show 3 < 1000; omega), fun l6 nl6 => ?_⟩
    have sl6 := same_upd nl6 (o := .lst [.int 0, .int 3, .int 9])
    refine ⟨m, c, cells, l6, _, _, rfl, mk5.same sl6, by omega, SqL.of upd_same, (ne_m mk5 nl6).1, by show 0 < 3; omega, by show 3 < 1000; omega, fun i7 x7 H7 hx7 mk7 bt7 => ?_⟩
    obtain ⟨w9, hw9, rfl⟩ : ∃ z : Nat, z ≤ 9 ∧ x7 = .int (z : Int) := by
      have hmem := List.mem_of_getElem? hx7
      simp only [List.mem_cons, List.not_mem_nil, or_false] at hmem
      rcases hmem with rfl | rfl | rfl
      · exact ⟨0, by omega, rfl⟩
      · exact ⟨3, by omega, rfl⟩
      · exact ⟨9, by omega, rfl⟩
    have hll7 := bt7.keep _ _ (sl6 _ _ hll) lm.1
    have b07 : But m H H7 := (b05.same sl6).trans bt7
    refine ⟨(w9 : Int), rfl, by omega, by omega, fun D hD => ?_⟩
    show ∃ W : Nat → Nat → Hp → Prop, _
    rw [Int.toNat_natCast]
    have Dm := ne_m mk7 hD
    refine lc_range (lo := 0) (n := w9) (fun i H' => ∃ ps : List Nat, H' D = some (.lst (wd ps)) ∧ ps.length = i ∧ (∀ p ∈ ps, p < 4) ∧ MillC H' m c cells (t0 + 8 + i) ∧ But m H7 H')
      ⟨[], upd_same, rfl, fun p hp => absurd hp List.not_mem_nil, (mk7.same (same_upd hD)).up (by omega), (But.refl mk7.some_).same (same_upd hD)⟩ ?_ ?_
    · rintro i H8 hi ⟨ps, hd, hlp, h4p, mk8, bt8⟩
      refine ⟨rfl, _, rfl, m, c, cells, 4, _, rfl, mk8, by omega, by decide, by decide, fun v9 H9 hv9 mk9 bt9 => ?_⟩
      refine ⟨_, bt9.keep _ _ hd Dm.1, by unfold wd; rw [List.length_map]; exact sz (by omega), ps ++ [v9], ?_, by rw [List.length_append, hlp]; rfl, fun p hp => ?_, mk9.upd_at Dm.1 Dm.2, (bt8.trans bt9).upd_at hD Dm.1⟩
      · rw [upd_same]; unfold wd; rw [List.map_append]; rfl
      · rcases List.mem_append.mp hp with h | h
        · exact h4p p h
        · rw [List.mem_singleton.mp h]; omega
    rintro H8 ⟨ps, hd, hlp, h4p, mk8, bt8⟩
    have hll8 := bt8.keep _ _ hll7 lm.1
    have b08 : But m H H8 := b07.trans bt8
    refine ⟨ll, D, b', ps, rfl, SqL.of hll8, SqL.of hd, hbl, h4p, fun lb H9 s9 nlb hlb => ?_⟩
    have nr := rb.near.steps ps h4p
    rw [Nat.zero_add] at nr
    have hps9 : ps.length ≤ 9 := by omega
    have hsl := nr.f.len
    have hll9 := s9 _ _ hll8
    have mk9 := mk8.same s9
    have b09 := b08.same s9
    -- near
    refine ⟨_, rfl, _, rfl, lb, ll, _, _, rfl, rfl, hlb, hll9, by rw [List.length_map, List.length_map, sizeLine_eq]; omega, fun pc npc => ?_⟩
    have sc9 := same_upd npc (o := .lst ((steps b' ps).map V.int ++ b'.map V.int))
    refine ⟨pc, rfl, ⟨_, SqL.of upd_same⟩, fun D2 hD2 => lc_list (K := K) (a := pc) (xs := (steps b' ps).map V.int ++ b'.map V.int) (fun i H' => ∃ zs : List Int, H' D2 = some (.lst (zs.map V.int)) ∧ zs.length ≤ i ∧ (∀ z ∈ zs, 1 ≤ z ∧ z ≤ 60) ∧ Same (upd H9 pc (.lst ((steps b' ps).map V.int ++ b'.map V.int))) H')
      ⟨[], upd_same, Nat.le_refl _, fun z hz => absurd hz List.not_mem_nil, same_upd hD2⟩ (fun i H' _ ⟨_, _, _, _, s⟩ => SqL.of (s _ _ upd_same)) ?_ ?_⟩
    · rintro i y H10 e ⟨zs, hd2, hlz, hz, s10⟩
      have hi8 : i < 8 := by
        have := (List.getElem?_eq_some_iff.mp e).1
        rw [List.length_append, List.length_map, List.length_map] at this
        omega
      obtain ⟨yz, rfl⟩ : ∃ z : Int, y = .int z := by
        have := List.mem_of_getElem? e
        rcases List.mem_append.mp this with h | h
        · obtain ⟨z, _, rfl⟩ := List.mem_map.mp h; exact ⟨z, rfl⟩
        · obtain ⟨z, _, rfl⟩ := List.mem_map.mp h; exact ⟨z, rfl⟩
      refine ⟨rfl, _, rfl, _, _, rfl, rfl, _, rfl, ?_⟩
      by_cases c1 : (1 : Int) ≤ yz
      · refine iT (decide_eq_true c1) ⟨_, _, rfl, rfl, _, rfl, ?_⟩
        by_cases c2 : yz ≤ 60
        · refine iT (decide_eq_true c2) ⟨_, rfl, _, hd2, by rw [List.length_map]; exact sz (by omega), zs ++ [yz], by rw [upd_same, List.map_append]; rfl, by rw [List.length_append]; show zs.length + 1 ≤ i + 1; omega, fun z hz' => ?_, same_at s10 hD2⟩
          rcases List.mem_append.mp hz' with h | h
          · exact hz z h
          · rw [List.mem_singleton.mp h]; exact ⟨c1, c2⟩
        · exact iF (decide_eq_false c2) ⟨zs, hd2, by omega, hz, s10⟩
      · exact iF (decide_eq_false c1) ⟨_, rfl, iF rfl ⟨zs, hd2, by omega, hz, s10⟩⟩
    rintro H10 ⟨zs, hd2, hlz, hz, s10⟩
    have hlz8 : zs.length ≤ 8 := by
      rw [List.length_append, List.length_map, List.length_map] at hlz
      omega
    have s910 := sc9.trans s10
    have mk10 := mk9.same s910
    have b010 := b09.same s910
    have D2m := ne_m (mk9.same sc9) hD2
    -- wanted
    refine ⟨_, rfl, _, rfl, _, rfl, m, c, cells, 60, _, rfl, mk10, by omega, by decide, by decide, fun v11 H11 hv11 mk11 bt11 => ?_⟩
    refine ⟨_, _, rfl, rfl, szl (by show 4 < 1000; omega), fun l11 nl11 => ?_⟩
    have hd11 := bt11.keep _ _ hd2 D2m.1
    have sl11 := same_upd nl11 (o := .lst [.int (1 + (v11 : Int)), .int 60, .int 1, .int 4])
    refine ⟨D2, l11, _, _, rfl, rfl, sl11 _ _ hd11, upd_same, by rw [List.length_map, sizeLine_eq]; show zs.length + 4 ≤ _; omega, fun p11 np11 => ?_⟩
    have sp11 := same_upd np11 (o := .lst (zs.map V.int ++ [.int (1 + (v11 : Int)), .int 60, .int 1, .int 4]))
    have s11 := sl11.trans sp11
    refine ⟨m, c, cells, p11, _, _, rfl, mk11.same s11, by omega, SqL.of upd_same, (ne_m (mk11.same sl11) np11).1, by rw [List.length_append]; show 0 < _ + 4; omega, by rw [List.length_append, List.length_map]; show _ + 4 < 1000; omega, fun i12 x12 H12 hx12 mk12 bt12 => ?_⟩
    obtain ⟨n, n1, n60, rfl⟩ : ∃ z : Int, 1 ≤ z ∧ z ≤ 60 ∧ x12 = .int z := by
      rcases List.mem_append.mp (List.mem_of_getElem? hx12) with h | h
      · obtain ⟨z, hz1, rfl⟩ := List.mem_map.mp h
        exact ⟨z, (hz z hz1).1, (hz z hz1).2, rfl⟩
      · simp only [List.mem_cons, List.not_mem_nil, or_false] at h
        rcases h with rfl | rfl | rfl | rfl
        · exact ⟨_, by omega, by omega, rfl⟩
        · exact ⟨60, by omega, by omega, rfl⟩
        · exact ⟨1, by omega, by omega, rfl⟩
        · exact ⟨4, by omega, by omega, rfl⟩
    have lbm := ne_m mk8 nlb
    have lb12 : H12 lb = some (.lst ((steps b' ps).map V.int)) := bt12.keep _ _ (s11 _ _ (bt11.keep _ _ (s910 _ _ hlb) lbm.1)) lbm.1
    have ll12 : H12 ll = some (.lst (b'.map V.int)) := bt12.keep _ _ (s11 _ _ (bt11.keep _ _ (s910 _ _ hll9) lm.1)) lm.1
    have b012 : But m H H12 := ((b010.trans bt11).same s11).trans bt12
    -- four
    refine ⟨_, rfl, fun x dx nx ndx nex => ?_⟩
    have bx : lb ≠ x := ne_of_none lb12 nx
    have bdx : lb ≠ dx := ne_of_none lb12 ndx
    refine ⟨x, lb, dx, steps b' ps, rfl, upd_same, by rw [upd_ne bx, upd_ne bdx]; exact lb12, nr.f, nr.g, nr.small hps9, fun H13 keep F13 => ⟨rfl, ?_⟩⟩
    have s13 : Same H12 H13 := same_make nx ndx keep
    obtain ⟨kd, hkd, dd⟩ := nr.d
    -- told
    refine ⟨_, rfl, _, rfl, _, _, rfl, .inr (.inr ⟨x, steps b' ps, b', kd, n, rfl, rfl, n1, n60, F13, nr.f, dd, rb.lo, fun z => by omega, fun _ u refs' R H14 s14 hu hR' tl => ?_⟩)⟩
    obtain ⟨sm1, sm2⟩ := tells_small rb n1 n60 tl
    have lb14 := s14 _ _ (s13 _ _ lb12)
    have ll14 := s14 _ _ (s13 _ _ ll12)
    -- repr(told) == repr(tuple(_law_out(..)))
    refine ⟨_, rfl, u, refs', _, rfl, SqT.of hu, hR', sm1, sm2, ?_⟩
    refine ⟨_, rfl, _, rfl, lb, steps b' ps, b', kd, n, rfl, SqL.of lb14, nr.f, dd, by omega, rb.lo, n1, n60, fun lo refs2 R2 H15 s15 hlo hR2 tl2 => ?_⟩
    have hn0 : 0 < n := by omega
    have eR : R2.mergeSort rle = R.mergeSort rle := tl2.one tl
    rw [eR] at hR2
    refine ⟨lo, _, rfl, .inl ⟨SqL.of hlo, fun to nto => ?_⟩⟩
    have sto := same_upd nto (o := .tup (refs2.map V.ref))
    refine ⟨to, refs2, _, rfl, SqT.of upd_same, rows_same sto hR2, sm1, sm2, rfl, ?_⟩
    refine ⟨_, rfl, ?_⟩
    rw [decide_eq_true (show V.str (txtR (R.mergeSort rle)) = V.str (txtR (R.mergeSort rle)) from rfl)]
    have s16 := s15.trans sto
    generalize upd H15 to (.tup (refs2.map V.ref)) = H16 at s16
    have ll16 := s16 _ _ ll14
    -- turned_out(Four(low), wanted) == told
    refine ⟨_, rfl, fun x2 dx2 nx2 ndx2 nex2 => ?_⟩
    have bx2 : ll ≠ x2 := ne_of_none ll16 nx2
    have bdx2 : ll ≠ dx2 := ne_of_none ll16 ndx2
    refine ⟨x2, ll, dx2, b', rfl, upd_same, by rw [upd_ne bx2, upd_ne bdx2]; exact ll16, rb.f, rb.g, by have := rb.lo.s; omega, fun H17 keep2 F17 => ⟨rfl, ?_⟩⟩
    have s17 : Same H16 H17 := same_make nx2 ndx2 keep2
    refine ⟨_, rfl, _, _, rfl, .inr (.inr ⟨x2, b', b', 0, n, rfl, rfl, n1, n60, F17, rb.f, rb.dn, rb.lo, fun z => by omega, fun _ u2 refs3 R3 H18 s18 hu2 hR3 tl3 => ?_⟩)⟩
    have eR3 : R3.mergeSort rle = R.mergeSort rle := tl3.one tl
    rw [eR3] at hR3
    have s1418 := s16.trans (s17.trans s18)
    refine ⟨_, rfl, _, _, .tup (SqT.of hu2) (dp_rows hR3), .tup (SqT.of (s1418 _ _ hu)) (dp_rows (rows_same s1418 hR')), shaped_rows true true _, shaped_rows true true _, ?_⟩
    have ee : PyData.eqv (.tuple ((R.mergeSort rle).map (encR true))) (.tuple ((R.mergeSort rle).map (encR true))) = true := eqv_refl_rows true true _
    rw [ee]
    have sAll := s13.trans (s14.trans s1418)
    exact q _ ((mk12.same sAll).up (by omega)) (b012.same sAll)
end
end BS
namespace BS
open PySem PySem.Spec PyProof.Rows L2
/-- a caught error at a, of the class cls, its own dict at d -/
def ExC (cls : Value) (d : Option Addr) (a : Addr) : HO := .ext fun h => ∃ (oe : Obj) (vs : Array Value), h.get? a = some oe ∧ Zc cls d oe ∧ oe.data = .fields vs
theorem exC_ok {P : Program} {w : World} {H : Hp} {h : Heap} {a : Addr} {cls : Value} {d : Option Addr} {oe : Obj} {vs : Array Value} (e : h.get? a = some oe) (z : Zc cls d oe) (hd : oe.data = .fields vs) : ObjOk P w H h a (ExC cls d a) :=
  ⟨⟨oe, vs, e, z, hd⟩, ⟨oe, e⟩, fun _ _ ⟨o, v, q, r⟩ k => ⟨o, v, k o q, r⟩⟩
section
variable {X : Cx} {pins : List (Addr × Obj)} {σ : L2.St} {H : Hp} {s : Shared}
/-- a pinned error, new since the entry, is tracked from now on -/
theorem track_ {a : Addr} {oe : Obj} {vs : Array Value} {cls : Value} {d : Option Addr} (I : Inv X ((a, oe) :: pins) σ H s) (z : Zc cls d oe) (hd : oe.data = .fields vs) (n0 : X.s_0.heap.get? a = none) (np : ∀ p ∈ X.pn ++ pins, p.1 ≠ a) :
    Inv X pins σ (upd H a (ExC cls d a)) s := by
  obtain ⟨ha, na, nL, nF, _⟩ := I.pin (a, oe) (List.mem_append_right _ (List.mem_cons_self ..))
  have ha : s.heap.get? a = some oe := ha
  have na : H a = none := na
  have ne0 : ∀ b o, X.s_0.heap.get? b = some o → b ≠ a := fun b o e y => by rw [y, n0] at e; cases e
  have neS : ∀ b o, H b = some o → b ≠ a := fun b o e => ne_of_none e na
  have cne : ∀ x c, X.env.cells.lookup x = some c → c ≠ a := fun x c e y => by
    obtain ⟨v, o, ho, hc⟩ := I.cell x c e
    rw [y, ha] at ho
    cases ho
    rw [hd] at hc
    cases hc
  refine ⟨I.ok, I.os, I.bare, ⟨I.base.keep, I.base.slot, fun b o e n hx => ?_, I.base.there, fun b xs e => ?_, fun b o u e => ?_, fun b ps e => ?_⟩, I.loc, I.cell, ?_, fun x c e => ?_, fun p hp => ?_, fun b u e => ?_, I.len⟩
  · rw [upd_ne (ne0 b o e)]; exact I.base.free b o e n hx
  · have q := I.base.tups b xs e
    rw [upd_ne (neS b _ q)]; exact q
  · have q := I.base.frzs b o u e
    rw [upd_ne (neS b _ q)]; exact q
  · obtain ⟨m, q⟩ := I.base.tbls b ps e
    exact ⟨m, by rw [upd_ne (neS b _ q)]; exact q⟩
  · rw [upd_ne (Ne.symm nL)]; exact I.free
  · rw [upd_ne (cne x c e)]; exact I.freeC x c e
  · have hp' : p ∈ X.pn ++ ((a, oe) :: pins) := by
      rcases List.mem_append.mp hp with h | h
      · exact List.mem_append_left _ h
      · exact List.mem_append_right _ (List.mem_cons_of_mem _ h)
    obtain ⟨e1, e2, e3, e4, e5⟩ := I.pin p hp'
    exact ⟨e1, by rw [upd_ne (np p hp)]; exact e2, e3, e4, e5⟩
  · by_cases hb : b = a
    · subst hb
      rw [upd_same] at e
      cases e
      exact exC_ok ha z hd
    · rw [upd_ne hb] at e
      exact (I.hok b u e).stay (fun c v _ q => q) (fun c q => by rw [upd_ne (neS c _ q)]; exact q) fun c xs q => by rw [upd_ne (neS c _ q)]; exact q
/-- what is wished of an error that the clause keeps -/
def wKeep (n : Nat) (K : PySem.W.Frag) (c : Value) (i : Nat) (ts : Addr → Value → Option Addr → TS) (Wout : WX) (D : Ends) : WX := fun cls d σ H => σ.length = n →
  ∃ b, PySem.W.exmOne K cls c = some b ∧ (b = true → ∀ a, H a = none → ts a cls d { nx := fun σ' H' => D.nx (σ'.set i none) (upd H' a (ExC cls d a)), rt := fun _ _ => False, bk := fun _ _ => False, ct := fun _ _ => False } (σ.set i (some (.ref a))) H) ∧
    (b = false → Wout cls d σ H)
end
section
variable {X : Cx} {x n : Str} {c : Value} {i : Nat} {body suite : List Stmt} {b₀ : Stmt} {np pos pos' : Pos} {tb : WX → TS} {ts : Addr → Value → Option Addr → TS} {Wout : WX}
theorem ps_try_keep (hex : X.ex = []) (hs : X.stack = X.env :: X.outer) (hf : X.env.frame = some X.env.locals) (hN : X.N.Nodup) (hi : X.N[i]? = some n) (hln : X.env.kindOf n = some .local) (hc : Names X x c) (tk : Takes X Wout)
    (hb : ∀ (W : WX) (pn : List (Addr × Obj)) (xe : Value → Shared → Prop), Takes (X.tr pn xe) W → PassesOwn (model X.prog X.w) X.A X.env xe → PSs (X.tr pn xe) body (tb W))
    (hsu : ∀ (a : Addr) (oe : Obj) (cls : Value) (d : Option Addr) (pn : List (Addr × Obj)), Zc cls d oe → (∃ vs, oe.data = .fields vs) → PSs (X.suite a ((a, oe) :: pn)) (b₀ :: suite) (ts a cls d)) :
    PS X (.Try body [.ExceptHandler (some (.Name x np)) (some n) (b₀ :: suite) pos'] [] [] pos) (fun D σ H => tb (wKeep X.N.length X.K c i ts Wout D) D σ H) := by
  refine ⟨fun pins s σ H D I h => ?_⟩
  have ok := I.ok
  have hfr : X.A.frames = some (X.env :: X.outer) := by rw [ok.frames, hs]
  have hloc : Loc X.env.scope n := .inl hln
  refine wpAny_Try_except ?_
  refine wpAny_mono ((hb (wKeep X.N.length X.K c i ts Wout D) (X.pn ++ pins) (fun e s₁ => wpAny (model X.prog X.w) X.A (noteFrame e X.env) (fun _ s₂ => wpAny (model X.prog X.w) X.A (setFlight e none) (fun _ s₃ =>
    wpAny (model X.prog X.w) X.A (handleBy e X.env [.ExceptHandler (some (.Name x np)) (some n) (b₀ :: suite) pos']) (SP X pins D) X.xe s₃) X.xe s₂) X.xe s₁) (fun u s' xx => ?_) PassesOwn.looking).run [] s σ H D (I.toTry _) h) (fun f s1 hsp => ?_) (fun e s1 he => he)
  · obtain ⟨a, B, sI, pins', σ', H', cls, d, rfl, J', nb, up, sky, na, os, ag, hww⟩ := xx
    have J : Inv X pins σ' H' sI := J'.ofTry ok
    obtain ⟨b, hb1, hyes, hno⟩ := hww J.len
    have sky' : Sky B (X.env :: X.outer) a (Zc cls d) X.env.locals s'.heap := by rw [← hs]; exact sky
    show wpAny (model X.prog X.w) X.A (noteFrame (.ref a) X.env) _ _ _
    refine Sky.land Zc.steady hfr hf sky' fun h3 fl3 up3 => ?_
    have J3 : Inv X pins σ' H' { s' with heap := h3 } := J.landed nb fl3.1 (up.trans up3) os ag
    obtain ⟨oe3, vs3, he3, hz3, hd3⟩ := fl3.there
    have notFr : ∀ {h : Heap} {o : Obj} {vs : Array Value}, h.FunFrames B (X.env :: X.outer) → h.get? a = some o → o.data = .fields vs → a ∉ frs (X.env :: X.outer) := fun {h o vs} ff e dd hm => by
      obtain ⟨_, o', e', hnf⟩ := ff.mem hm
      rw [e] at e'; cases e'
      exact hnf _ dd
    have nfr := notFr fl3.2.2.1 he3 hd3
    have nL : a ≠ X.env.locals := fun z => nfr (List.mem_filterMap.mpr ⟨X.env, List.mem_cons_self, by rw [hf, z]⟩)
    have nF : a ∉ X.fs := fun hm => by
      obtain ⟨e, he, q⟩ := List.mem_filterMap.mp hm
      exact nfr (List.mem_filterMap.mpr ⟨e, List.mem_cons_of_mem _ he, q⟩)
    have nI : sI.heap.get? a = none := by
      cases e : sI.heap.get? a with
      | none => rfl
      | some o =>
        have q := nb a o e (by rw [hs]; exact nfr)
        rw [fl3.2.1] at q
        cases q
    have n0 : X.s_0.heap.get? a = none := by
      cases e : X.s_0.heap.get? a with
      | none => rfl
      | some o =>
        obtain ⟨o', q⟩ := J.base.there a o e (by rw [hex]; exact fun z => nomatch z)
        rw [nI] at q
        cases q
    have npp : ∀ p ∈ X.pn ++ pins, p.1 ≠ a := fun p hp z => by
      have q := (J.pin p hp).1
      rw [z, nI] at q
      cases q
    have S3 := J3.suite he3 hd3 na nL nF
    refine wpAny_handleBy_cons (codeAny_handlers_test ?_) (by intro q; cases q)
    have LT : PySem.W.Looks (model X.prog X.w) h3 (typeOf (.ref a)) cls := fun A Q E s k q => wpAny_typeOf_ref (k _ _ he3) (by rw [hz3.1]; exact q)
    have LM := PySem.W.exm_one (M := model X.prog X.w) (J3.kIn) LT hb1
    have test : ∀ {Q : Value → Shared → Prop} {E : Value → Shared → Prop}, Q c { s' with heap := h3 } → wpAny (model X.prog X.w) (X.A.mark (some (.ref a))) (eval (.Name x np) X.env) Q E { s' with heap := h3 } := fun {Q E} q => by
      obtain ⟨hg, hdbg, hm | ⟨hm, hv, hnn⟩⟩ := hc
      · exact ld_glob (X := X.suite a ((a, oe3) :: (X.pn ++ pins))) S3 hg hm q hdbg
      · exact ld_blt (X := X.suite a ((a, oe3) :: (X.pn ++ pins))) S3 hg hm hv q hnn hdbg
    refine test (LM.here ?_)
    cases b with
    | true =>
      refine codeAny_handlers_suite_as ?_
      refine HandSPX.lands_againZ fl3 fun h4 fl4 up4 => ?_
      have J4 : Inv X pins σ' H' { s' with heap := h4 } := J.landed nb fl4.1 ((up.trans up3).trans up4) os ag
      obtain ⟨oe4, vs4, he4, hz4, hd4⟩ := fl4.there
      have S4 := J4.suite he4 hd4 na nL nF
      refine store_ok (X := X.suite a ((a, oe4) :: (X.pn ++ pins))) (v := .ref a) S4 hN hi hloc rfl (fun s5 S5 => ?_) (.inr hln)
      refine wpAny_mono ((hsu a oe4 cls d (X.pn ++ pins) hz4 ⟨_, hd4⟩).run [] s5 _ H' _ S5 (hyes rfl a na)) (fun f s6 hsp => ?_) (fun _ _ z => False.elim z)
      cases f with
      | next =>
        obtain ⟨σ6, H6, S6, q6⟩ := hsp
        have U6 : Inv X ((a, oe4) :: pins) σ6 H6 s6 := ⟨ok, S6.os, S6.bare, S6.base, S6.loc, S6.cell, S6.free, S6.freeC, fun p hp => S6.pin p (by
          rcases List.mem_append.mp hp with h | h
          · exact List.mem_append_left _ (List.mem_cons_of_mem _ (List.mem_append_left _ h))
          · rcases List.mem_cons.mp h with h | h
            · rw [h]; exact List.mem_append_left _ (List.mem_cons_self ..)
            · exact List.mem_append_left _ (List.mem_cons_of_mem _ (List.mem_append_right _ h))), S6.hok, S6.len⟩
        refine gone_ok U6 hN hi hln fun s7 J7 => ?_
        exact ⟨_, _, track_ J7 hz4 hd4 n0 npp, q6⟩
      | brk => obtain ⟨_, _, _, q⟩ := hsp; exact q.elim
      | cont => obtain ⟨_, _, _, q⟩ := hsp; exact q.elim
      | ret u => obtain ⟨_, _, _, _, _, q⟩ := hsp; exact q.elim
    | false =>
      show wpAny _ X.A (handleBy (.ref a) X.env []) _ _ _
      refine wpAny_handleBy_nil ?_
      obtain ⟨k1, k2, k3, oe, vs, T, oT, ts', he, hz, hd, h1, hr⟩ := id fl3
      unfold PySem.passOn
      refine wpAny_bind (wpAny_field he hd h1 ?_)
      rw [if_neg (show ¬ ((Value.ref T == Value.none) = true) from by simp)]
      have fin : wpAny (model X.prog X.w) X.A (setFlight (.ref a) X.env.frame) (fun _ s4 => wpAny (model X.prog X.w) X.A (throw (.ref a) : Sem Flow) (SP X pins D) X.xe s4) X.xe { s' with heap := h3 } := by
        rw [hf]
        refine HandSPX.setFlight_upZ fl3 fun h4 hh4 up4 => wpAny_throw (tk _ _ ?_)
        exact ⟨a, B, sI, pins, σ', H', cls, d, rfl, J, nb, (up.trans up3).trans up4, .inr (.inr (by rw [hs]; exact hh4)), na, os, ag, hno rfl⟩
      first
        | exact wpAny_bind (wpAny_pure (wpAny_bind fin))
        | exact wpAny_bind fin
  · cases f with
    | next =>
      obtain ⟨σ', H', J', q⟩ := hsp
      exact wpAny_execs_nil ⟨σ', H', J'.ofTry ok, q⟩
    | brk =>
      obtain ⟨σ', H', J', q⟩ := hsp
      exact ⟨σ', H', J'.ofTry ok, q⟩
    | cont =>
      obtain ⟨σ', H', J', q⟩ := hsp
      exact ⟨σ', H', J'.ofTry ok, q⟩
    | ret u =>
      obtain ⟨v, σ', H', J', r, q⟩ := hsp
      exact ⟨v, σ', H', J'.ofTry ok, r, q⟩
end
/-! ### a caught error asked: isinstance, its fields -/
structure ExcTxt (K : PySem.W.Frag) (C : Addr) (names : List Str) : Prop where
  hcl : (PySem.W.clsIn K C).isSome = true
  ga : PySem.W.findIn K (.ref C) "__getattribute__" = some (some (.builtin "BaseException.__getattribute__"))
  gg : PySem.W.findIn K (.ref C) "__getattr__" = some none
  exC : PySem.W.subIn K (.ref C) (.type "BaseException") = some true
  ha : PySem.W.findIn K (.ref C) "__class__" = some (some (.builtin "object.__class__"))
  hn : PySem.W.specialIn K (.builtin "object.__class__") "__get__" = some (some (.builtin "getset_descriptor.__get__"))
  htk : PySem.W.takesIn K (.builtin "object.__class__") = some true
  hm : PySem.W.mroIn K C (.type "object") = some true
  hdC : PySem.W.hasDictIn K C = true
  noN : ∀ f, f ∈ names → PySem.W.findIn K (.ref C) f = some none
section
variable {X : Cx} {pins : List (Addr × Obj)} {σ : L2.St} {H : Hp} {s : Shared}
theorem exc_inst (I : Inv X pins σ H s) {C a d : Addr} {fs : List (Str × V)} (ha : H a = some (ExC (.ref C) (some d) a)) (hd : H d = some (.xd fs)) : ∃ (oe od : Obj) (m : Str → Option Value), PySem.W.InstAt s.heap a oe C (some od) ∧ (∀ f, RelO (List.lookup f fs) (m f)) ∧ s.heap.Ns1 d m := by
  obtain ⟨⟨oe, vs, he, hz, hf⟩, _, _⟩ := I.hok a _ ha
  obtain ⟨mA, hns, hr⟩ := (show ObjOk X.prog X.w H s.heap d (.xd fs) from I.hok d _ hd)
  obtain ⟨od, ho, _⟩ := lookIn_ns hns
  exact ⟨oe, od, mA, ⟨he, hz.1, by unfold PySem.W.notCls; rw [hf] <;> rfl, by rw [hz.2]; exact ho⟩, hr, hns⟩
/-- None, or a caught error -/
inductive TyE (K : PySem.W.Frag) (H : Hp) : V → Value → Prop
  | non : TyE K H .non (.type "NoneType")
  | exc {C a d : Addr} {fs : List (Str × V)} {names : List Str} (T : ExcTxt K C names) (ha : H a = some (ExC (.ref C) (some d) a)) (hd : H d = some (.xd fs)) : TyE K H (.ref a) (.ref C)
theorem kit_e {x : V} {u t : Value} (I : Inv X pins σ H s) (rx : RelV x u) (ty : TyE X.K H x t) : ∃ P : Heap → Prop, PySem.W.KitX X.K u t P ∧ P s.heap ∧ u ≠ .builtin "__main__.__loader__#opaque" := by
  cases ty with
  | non => cases (show u = Value.none from rx); exact ⟨_, PySem.W.kitx_none, True.intro, fun z => nomatch z⟩
  | @exc C a d fs names T ha hd =>
    cases (show u = Value.ref a from rx)
    obtain ⟨oe, od, m, J, _⟩ := exc_inst I ha hd
    exact ⟨_, PySem.W.kitx_exc T.hcl T.ga T.gg T.exC T.ha T.hn T.htk T.hm, J, fun z => nomatch z⟩
def rIsiE (K : PySem.W.Frag) : List V → Hp → VK → Prop := fun xs H Q => ∃ (x c : V) (t u : Value) (b : Bool), xs = [x, c] ∧ ClsV c u ∧ TyE K H x t ∧ PySem.W.kitOne K t u = some b ∧ Q (.bl b) H
theorem call_isiE : CallR X (.builtin "isinstance") (rIsiE X.K) := by
  intro pins s σ H xs us Q I r h
  obtain ⟨x, c, t, u, b, rfl, k, ty, e, q⟩ := h
  obtain ⟨u1, u2, rfl, r1, r2⟩ := vals2 r
  have e2 := k.eq r2
  subst e2
  obtain ⟨P, Z, p, hx⟩ := kit_e I r1 ty
  exact PySem.W.kia_one Z I.kIn p e hx fun tk => ⟨.bl b, H, I.tok tk, rfl, q⟩
def rIsiTE (K : PySem.W.Frag) : List V → Hp → VK → Prop := fun xs H Q => ∃ (x : V) (tp : Addr) (cs : List V) (t : Value) (us : List Value) (b : Bool), xs = [x, .ref tp] ∧ H tp = some (.tup cs) ∧ Paired ClsV cs us ∧ TyE K H x t ∧ PySem.W.kitAny K t us = some b ∧ Q (.bl b) H
theorem call_isiTE : CallR X (.builtin "isinstance") (rIsiTE X.K) := by
  intro pins s σ H xs us Q I r h
  obtain ⟨x, tp, cs, t, ws, b, rfl, hT, k, ty, e, q⟩ := h
  obtain ⟨u1, u2, rfl, r1, r2⟩ := vals2 r
  cases (show u2 = Value.ref tp from r2)
  obtain ⟨P, Z, p, hx⟩ := kit_e I r1 ty
  obtain ⟨_, its, rv, o, h1, h2, n, h3⟩ := (show ObjOk X.prog X.w H s.heap tp (.tup cs) from I.hok tp _ hT)
  have e3 := ClsV.all k rv
  subst e3
  obtain ⟨oc, od, dt, sl⟩ := o
  simp only at h2 h3
  subst h2 h3
  exact PySem.W.kia_tup Z I.kIn p h1 e hx fun tk => ⟨.bl b, H, I.tok tk, rfl, q⟩
/-- e.f, e a caught error -/
def tFldE (K : PySem.W.Frag) (f : Str) (te : TE) : TE := fun σ H Q => te σ H fun x H1 => ∃ (C a d : Addr) (fs : List (Str × V)) (names : List Str) (v : V), x = .ref a ∧ ExcTxt K C names ∧ f ∈ names ∧ H1 a = some (ExC (.ref C) (some d) a) ∧ H1 d = some (.xd fs) ∧ List.lookup f fs = some v ∧ Q v H1
theorem pe_fldE {e : Expr} {te : TE} {f : Str} {pos : Pos} (he : PE X e te) (hb : attributeBase e f X.env (eval e X.env) = eval e X.env := by rfl) : PE X (.Attribute e f pos) (tFldE X.K f te) := by
  refine ⟨fun pins s σ H Q I h => ?_⟩
  refine attr_of hb (thn (he.run pins s σ H _ I h) fun u s1 hh => ?_)
  obtain ⟨x, H1, I1, rx, C, a, d, fs, names, v, ex, T, hf, ha, hd, hl, q⟩ := hh
  subst ex
  obtain rfl : u = Value.ref a := rx
  obtain ⟨oe, od, m, J, hr, hns⟩ := exc_inst I1 ha hd
  obtain ⟨od2, ho2, hlk⟩ := lookIn_ns hns
  have e0 : s1.heap.get? d = some od := by
    obtain ⟨⟨oe2, vs2, he2, hz2, _⟩, _, _⟩ := I1.hok a _ ha
    have ja := J.at_
    rw [he2] at ja
    cases ja
    have jd := J.dict
    rw [hz2.2] at jd
    exact jd
  rw [e0] at ho2
  cases ho2
  obtain ⟨u, hu, ru⟩ := RelO.some_of (v := v) (o := m f) (by rw [← hl]; exact hr f)
  exact HandSPX.exc_get I1.kIn J T.ga T.gg T.exC (PySem.W.findObj_own T.hdC (T.noN f hf) rfl (by rw [hlk, hu])) (handed_of ru) ⟨v, H1, I1.tok _, ru, q⟩
end
end BS
namespace BS
open PySem PySem.Spec PyProof.Rows L2
/-- what is known of the error classes -/
structure Errs (K : PySem.W.Frag) (mg : Str → Option Value) (CE CB CN CT : Addr) : Prop where
  gE : mg "BendError" = some (.ref CE)
  gB : mg "BadFour" = some (.ref CB)
  gN : mg "BadNumber" = some (.ref CN)
  gT : mg "TooMany" = some (.ref CT)
  eB : PySem.W.exmOne K (.ref CB) (.ref CE) = some true
  eN : PySem.W.exmOne K (.ref CN) (.ref CE) = some true
  eT : PySem.W.exmOne K (.ref CT) (.ref CE) = some true
  xB : ExcTxt K CB ["part"]
  xN : ExcTxt K CN ["part"]
  xT : ExcTxt K CT ["what", "most"]
  nB : PySem.W.kitOne K (.ref CN) (.ref CB) = some false
  tB : PySem.W.kitOne K (.ref CT) (.ref CB) = some false
  tN : PySem.W.kitOne K (.ref CT) (.ref CN) = some false
  bT : PySem.W.kitOne K (.ref CB) (.ref CT) = some false
  nT : PySem.W.kitOne K (.ref CN) (.ref CT) = some false
  oB : PySem.W.kitOne K (.type "NoneType") (.ref CB) = some false
  oN : PySem.W.kitOne K (.type "NoneType") (.ref CN) = some false
  oT : PySem.W.kitOne K (.type "NoneType") (.ref CT) = some false
/-- what _law_heard makes of an error -/
def HeardE (CB CN CT : Addr) (Q : VK) : XK := fun cls d H' => ∃ dd, d = some dd ∧
  ((cls = .ref CB ∧ ∃ v, H' dd = some (.xd [("part", v)]) ∧ ∀ p H2, Same H' H2 → H2 p = some (.tup [.str "four", v]) → Q (.ref p) H2) ∨
   (cls = .ref CN ∧ ∃ v, H' dd = some (.xd [("part", v)]) ∧ ∀ p H2, Same H' H2 → H2 p = some (.tup [.str "number", v]) → Q (.ref p) H2) ∨
   (cls = .ref CT ∧ ∃ v1 v2, H' dd = some (.xd [("what", v1), ("most", v2)]) ∧ ∀ p H2, Same H' H2 → H2 p = some (.tup [v1, v2]) → Q (.ref p) H2))
def TTh (CB CN CT : Addr) : (XK → Hp → VK → Prop) → Hp → VK → Prop := fun tl H Q => ∀ (E' : XK) (Q' : VK), (∀ cls d H', HeardE CB CN CT Q cls d H' → E' cls d H') → (∀ v H', (∀ H2, Same H' H2 → Q .non H2) → Q' v H') → tl E' H Q'
abbrev nHeard : List Str := ["_law_ask", "_law_caught", "error"]
theorem scHeard : FnScope nHeard ["_law_ask"] (defScope sHeard) := ⟨rfl, rfl, rfl, by decide +kernel, rfl, by decide +kernel, by decide +kernel⟩
theorem kitSelf {K : PySem.W.Frag} {C : Addr} : PySem.W.kitOne K (.ref C) (.ref C) = some true := kit_self
section
variable {X : Cx}
theorem heard_gives {CE CB CN CT g : Addr} {cdg : Value} {q : Str} (T : Errs X.K X.mg CE CB CN CT) (B : Blt X.mg) :
    LamX.GivesTo X nHeard "_law_heard" (defScope sHeard) g cdg (defBody sHeard) "_law_ask" q (TTh CB CN CT) := by
  intro f c' s H Q tl act hc h
  have isiT := call_isiTE (X := (cxOf C8.CX0 X.prog X.w X.K X.mg X.base nHeard "_law_heard" (defScope sHeard) g cdg X.A X.stack s H C8.E0).nox)
  have isi := call_isiE (X := (cxOf C8.CX0 X.prog X.w X.K X.mg X.base nHeard "_law_heard" (defScope sHeard) g cdg X.A X.stack s H C8.E0).nox)
  refine ⟨_, pss_cons (ps_set (i := 1) scHeard.nd rfl (Or.inl rfl) pe_non)
    (pss_cons (ps_try_keep (i := 2) (c := .ref CE) (Wout := fun _ _ _ _ => False)
      (tb := fun W D σ H => ∃ Ech : XK, (∀ cls d σ' H', Ech cls d H' → W cls d σ' H') ∧ σ[0]? = some (some (.ref f)) ∧ H c' = some (LamX.CodeO c' q) ∧ tl Ech H (fun _ H' => D.nx σ H'))
      rfl rfl rfl scHeard.nd rfl rfl ⟨rfl, by decide, .inl T.gE⟩ LamX.takes0 (fun W pn xe tk _ => ?_)
      (fun a oe cls d pn hz hf => pss_one (ps_set (i := 1) scHeard.nd rfl (Or.inl rfl) (pv 2))))
    (pss_cons (ps_if (pt_val (pe_callB isiT (by rfl) B.isinstance (by decide +kernel) (pa_cons (pv 1) (pa_cons (pe_tup (pa_cons (pe_glob (v := .ref CB) rfl T.gB rfl) (pa_cons (pe_glob (v := .ref CN) rfl T.gN rfl) pa_nil))) pa_nil))))
      (pss_one (ps_ret (pe_tup (pa_cons (pe_ifExp (pt_val (pe_callB isi (by rfl) B.isinstance (by decide +kernel) (pa_cons (pv 1) (pa_cons (pe_glob (v := .ref CB) rfl T.gB rfl) pa_nil)))) pe_str pe_str) (pa_cons (pe_fldE (pv 1)) pa_nil))))) pss_nil)
    (pss_cons (ps_if (pt_val (pe_callB isi (by rfl) B.isinstance (by decide +kernel) (pa_cons (pv 1) (pa_cons (pe_glob (v := .ref CT) rfl T.gT rfl) pa_nil))))
      (pss_one (ps_ret (pe_tup (pa_cons (pe_fldE (pv 1)) (pa_cons (pe_fldE (pv 1)) pa_nil))))) pss_nil)
    (pss_one (ps_ret (pe_ifExp (pt_cmpR op_isN (pv 1) pe_non (nomark _)) pe_non (pe_tup (pa_cons pe_str (pa_cons pe_non pa_nil))))))))), ?_⟩
  · refine ⟨fun pins s' σ H' D I h' => ?_⟩
    obtain ⟨Ech, hW, h1, h2, h3⟩ := h'
    exact (pss_one (ps_expr (by exact act W pn xe Ech _ _ tk hW))).run pins s' σ H' D I (by exact ⟨h1, h2, h3⟩)
  · have same_a : ∀ {H' : Hp} {a : Addr} {o : HO}, H' a = none → Same H' (upd H' a o) := fun n => same_upd n
    refine ⟨HeardE CB CN CT Q, ?_, rfl, hc, ?_⟩
    · rintro cls d σ' H' ⟨dd, rfl, hh⟩ hlen
      obtain ⟨y0, y1, y2, rfl⟩ : ∃ y0 y1 y2, σ' = [y0, y1, y2] := by
        have hlen : σ'.length = 3 := hlen
        match σ', hlen with
        | [a, b, c], _ => exact ⟨a, b, c, rfl⟩
      rcases hh with ⟨rfl, v, hd, hq⟩ | ⟨rfl, v, hd, hq⟩ | ⟨rfl, v1, v2, hd, hq⟩
      · refine ⟨true, T.eB, fun _ a na => ⟨_, rfl, ?_⟩, fun z => nomatch z⟩
        have s1 := same_upd na (o := ExC (.ref CB) (some dd) a)
        have ea : (upd H' a (ExC (.ref CB) (some dd) a)) a = some (ExC (.ref CB) (some dd) a) := upd_same
        have ed := s1 _ _ hd
        refine ⟨_, rfl, szl (by show 2 < 1000; omega), fun p np => ?_⟩
        have sp := same_upd np (o := .tup [.ref CB, .ref CN])
        refine ⟨_, p, _, _, [.ref CB, .ref CN], true, rfl, upd_same, .cons (.own CB) (.cons (.own CN) .nil), .exc T.xB (sp _ _ ea) (sp _ _ ed), ?_, _, rfl, iT rfl ?_⟩
        · show (match PySem.W.kitOne X.K (.ref CB) (.ref CB) with | some true => some true | some false => PySem.W.kitAny X.K (.ref CB) [.ref CN] | none => none) = some true
          rw [kitSelf]
        refine ⟨_, rfl, _, _, _, _, true, rfl, .own CB, .exc T.xB (sp _ _ ea) (sp _ _ ed), kitSelf, _, rfl, iT rfl ?_⟩
        refine ⟨_, rfl, CB, a, dd, _, _, v, rfl, T.xB, List.mem_cons_self .., sp _ _ ea, sp _ _ ed, rfl, szl (by show 2 < 1000; omega), fun p2 np2 => ?_⟩
        exact hq p2 _ (s1.trans (sp.trans (same_upd np2))) upd_same
      · refine ⟨true, T.eN, fun _ a na => ⟨_, rfl, ?_⟩, fun z => nomatch z⟩
        have s1 := same_upd na (o := ExC (.ref CN) (some dd) a)
        have ea : (upd H' a (ExC (.ref CN) (some dd) a)) a = some (ExC (.ref CN) (some dd) a) := upd_same
        have ed := s1 _ _ hd
        refine ⟨_, rfl, szl (by show 2 < 1000; omega), fun p np => ?_⟩
        have sp := same_upd np (o := .tup [.ref CB, .ref CN])
        refine ⟨_, p, _, _, [.ref CB, .ref CN], true, rfl, upd_same, .cons (.own CB) (.cons (.own CN) .nil), .exc T.xN (sp _ _ ea) (sp _ _ ed), ?_, _, rfl, iT rfl ?_⟩
        · show (match PySem.W.kitOne X.K (.ref CN) (.ref CB) with | some true => some true | some false => (match PySem.W.kitOne X.K (.ref CN) (.ref CN) with | some true => some true | some false => PySem.W.kitAny X.K (.ref CN) [] | none => none) | none => none) = some true
          rw [T.nB, kitSelf]
        refine ⟨_, rfl, _, _, _, _, false, rfl, .own CB, .exc T.xN (sp _ _ ea) (sp _ _ ed), T.nB, _, rfl, iF rfl ?_⟩
        refine ⟨_, rfl, CN, a, dd, _, _, v, rfl, T.xN, List.mem_cons_self .., sp _ _ ea, sp _ _ ed, rfl, szl (by show 2 < 1000; omega), fun p2 np2 => ?_⟩
        exact hq p2 _ (s1.trans (sp.trans (same_upd np2))) upd_same
      · refine ⟨true, T.eT, fun _ a na => ⟨_, rfl, ?_⟩, fun z => nomatch z⟩
        have s1 := same_upd na (o := ExC (.ref CT) (some dd) a)
        have ea : (upd H' a (ExC (.ref CT) (some dd) a)) a = some (ExC (.ref CT) (some dd) a) := upd_same
        have ed := s1 _ _ hd
        refine ⟨_, rfl, szl (by show 2 < 1000; omega), fun p np => ?_⟩
        have sp := same_upd np (o := .tup [.ref CB, .ref CN])
        refine ⟨_, p, _, _, [.ref CB, .ref CN], false, rfl, upd_same, .cons (.own CB) (.cons (.own CN) .nil), .exc T.xT (sp _ _ ea) (sp _ _ ed), ?_, _, rfl, iF rfl ?_⟩
        · show (match PySem.W.kitOne X.K (.ref CT) (.ref CB) with | some true => some true | some false => (match PySem.W.kitOne X.K (.ref CT) (.ref CN) with | some true => some true | some false => some false | none => none) | none => none) = some false
          rw [T.tB, T.tN]
        refine ⟨_, rfl, _, _, _, _, true, rfl, .own CT, .exc T.xT (sp _ _ ea) (sp _ _ ed), kitSelf, _, rfl, iT rfl ?_⟩
        refine ⟨_, rfl, CT, a, dd, _, _, v1, rfl, T.xT, List.mem_cons_self .., sp _ _ ea, sp _ _ ed, rfl, _, rfl, CT, a, dd, _, _, v2, rfl, T.xT, List.mem_cons_of_mem _ (List.mem_cons_self ..), sp _ _ ea, sp _ _ ed, rfl, szl (by show 2 < 1000; omega), fun p2 np2 => ?_⟩
        exact hq p2 _ (s1.trans (sp.trans (same_upd np2))) upd_same
    · refine h _ _ (fun _ _ _ z => z) (fun v H' hq => ?_)
      refine ⟨_, rfl, szl (by show 2 < 1000; omega), fun p np => ?_⟩
      have sp := same_upd np (o := .tup [.ref CB, .ref CN])
      refine ⟨_, p, _, _, [.ref CB, .ref CN], false, rfl, upd_same, .cons (.own CB) (.cons (.own CN) .nil), .non, ?_, _, rfl, iF rfl ?_⟩
      · show (match PySem.W.kitOne X.K (.type "NoneType") (.ref CB) with | some true => some true | some false => (match PySem.W.kitOne X.K (.type "NoneType") (.ref CN) with | some true => some true | some false => some false | none => none) | none => none) = some false
        rw [T.oB, T.oN]
      refine ⟨_, rfl, _, _, _, _, false, rfl, .own CT, .non, T.oT, _, rfl, iF rfl ?_⟩
      exact ⟨_, rfl, rfl, _, rfl, iT rfl (hq _ sp)⟩
end
end BS
namespace BS
open PySem PySem.Spec PyProof.Rows L2
/-- the run of down, told -/
def runD : Nat → List Int → Nat × List Int
  | 0, b => (0, b)
  | n + 1, b => match lowP b with
    | none => (0, b)
    | some p => ((runD n (sw b p)).1 + 1, (runD n (sw b p)).2)
theorem runD_dn : ∀ {n : Nat} {b : List Int}, lowP (runD n b).2 = none → Dn b (runD n b).1 (runD n b).2
  | 0, b, h => Dn.stop h
  | n + 1, b, h => by
    unfold runD at h ⊢
    cases e : lowP b with
    | none => rw [e] at h; exact Dn.stop e
    | some p => rw [e] at h; exact Dn.step e (runD_dn h)
theorem dn_run {n k : Nat} {b r : List Int} (h : runD n b = (k, r)) (hl : lowP r = none) : Dn b k r := by
  have := runD_dn (n := n) (b := b) (by rw [h]; exact hl)
  rw [h] at this
  exact this
abbrev four1 : List Int := [0, 1, 4, 1]
abbrev far1 : List Int := [0, 40401, 1, 40804]
abbrev near1 : List Int := [0, 40000, 1, 40401]
theorem four1_f : IsF four1 := ⟨rfl, by decide, by decide⟩
theorem far1_f : IsF far1 := ⟨rfl, by decide +kernel, by decide⟩
theorem near1_f : IsF near1 := ⟨rfl, by decide +kernel, by decide⟩
theorem four1_g : gcd4 four1 = 1 := by decide +kernel
theorem far1_g : gcd4 far1 = 1 := by decide +kernel
theorem near1_g : gcd4 near1 = 1 := by decide +kernel
theorem four1_d : Dn four1 1 [0, 1, 0, 1] := dn_run (n := 5) (by decide +kernel) (by decide +kernel)
theorem far1_d : Dn far1 201 [0, 1, 1, 0] := dn_run (n := 300) (by decide +kernel) (by decide +kernel)
theorem near1_d : Dn near1 200 [0, 0, 1, 1] := dn_run (n := 300) (by decide +kernel) (by decide +kernel)
theorem lowA : Low [0, 1, 0, 1] := ⟨by decide, by decide +kernel⟩
theorem lowB : Low [0, 1, 1, 0] := ⟨by decide, by decide +kernel⟩
theorem lowC : Low [0, 0, 1, 1] := ⟨by decide, by decide +kernel⟩
theorem near1_o : (outs 4 [0, 0, 1, 1]).mergeSort rle = [[-4, 8, 9, 9]] := by decide +kernel
theorem okGC {P : Program} {w : World} {K : PySem.W.Frag} {mg : Str → Option Value} {base : Heap} {k : Nat} {f : Addr} {name qual : Str} {params : Arguments} {body : List Stmt} {scope : Scope} {dV kV doc pm cdv ct oc : Value} {an od : Option Addr} {osl : Array (Option Value)} {N ps : List Str} {sp : Sp}
    (lk : K.lookup f = some ⟨oc, od, .func (PySem.W.fnOf name qual params body scope dV kV doc pm an cdv ct), osl⟩) (hcd : PySem.W.codeIn K cdv qual = true) (S : FnScope N ps scope) (len : ∀ vs H Q E, sp vs H Q E → vs.length = ps.length)
    (hbody : ∀ (A : Around) (outer : List Env) (s : Shared) (H : Hp) (vs : List V) (Q : VK) (E : XK), A.guards = some [] → Room k (A.deeper (envOfC qual scope s.heap.objs.size f cdv)) → sp vs H Q E →
      ∃ t, PSs (cxOf CX0 P w K mg base N qual scope f cdv A outer s H E).nox body t ∧ t { nx := fun _ H' => Q .non H', rt := Q } (L2.start N vs) H) : FnG P w K mg base (k + 1) f (PySem.W.fnOf name qual params body scope dV kV doc pm an cdv ct) ps sp := by
  refine ⟨len, fun A outer s H args us vs Q E hg hr e0 hb r hsp => ?_⟩
  refine LamX.run_ofS lk hcd S hr e0 hb r (len _ _ _ _ hsp) fun hr' => ?_
  obtain ⟨t, h, q⟩ := hbody A outer s H vs Q E hg hr' hsp
  exact ⟨t, h.nox, q⟩
/-! ### what is kept over a lambda -/
theorem FourAt.extN {C : Addr} {H H' : Hp} {p : Addr} {b : List Int} (h : FourAt C H p b) (s : LamX.ExtN H H') : FourAt C H' p b := by
  obtain ⟨t, dx, e1, e2⟩ := h; exact ⟨t, dx, s _ _ e1 (fun _ z => nomatch z), s _ _ e2 (fun _ z => nomatch z)⟩
theorem Arg.extN {H H' : Hp} {v : V} (h : Arg H v) (s : LamX.ExtN H H') : Arg H' v := by
  cases h with
  | int i => exact .int i
  | bl b => exact .bl b
  | non => exact .non
  | str x => exact .str x
  | lst e => exact .lst (s _ _ e (fun _ z => nomatch z))
theorem FourAt.updL {C : Addr} {H : Hp} {p l : Addr} {b : List Int} {ys : List V} {o : HO} (h : FourAt C H p b) (e : H l = some (.lst ys)) : FourAt C (upd H l o) p b := by
  obtain ⟨t, dx, e1, e2⟩ := h
  exact ⟨t, dx, by rw [upd_ne (ne_of e1 e (fun z => nomatch z))]; exact e1, by rw [upd_ne (ne_of e2 e (fun z => nomatch z))]; exact e2⟩
theorem Arg.updL {H : Hp} {l : Addr} {v : V} {ys zs : List V} (h : Arg H v) (e : H l = some (.lst ys)) : Arg (upd H l (.lst zs)) v := by
  cases h with
  | int i => exact .int i
  | bl b => exact .bl b
  | non => exact .non
  | str x => exact .str x
  | @lst a xs q =>
    by_cases h : a = l
    · exact .lst (by rw [h, upd_same])
    · exact .lst (by rw [upd_ne h]; exact q)
theorem tabs_updL {T : List (Addr × Str)} {H : Hp} {l : Addr} {ys : List V} {o : HO} (h : LamX.Tabs T H) (e : H l = some (.lst ys)) : LamX.Tabs T (upd H l o) := fun p hp => by
  obtain ⟨ps, h1, h2, h3⟩ := h p hp
  refine ⟨ps, by rw [upd_ne (ne_of h1 e (fun z => nomatch z))]; exact h1, h2, fun pos cv hc => ?_⟩
  obtain ⟨c, e1, e2⟩ := h3 pos cv hc
  refine ⟨c, e1, ?_⟩
  rw [upd_ne (ne_of e2 e (fun z => by unfold LamX.CodeO at z; cases z))]
  exact e2
theorem extN_same {H H' : Hp} (s : Same H H') : LamX.ExtN H H' := fun b o h _ => s b o h
theorem Tabs.same {T : List (Addr × Str)} {H H' : Hp} (h : LamX.Tabs T H) (s : Same H H') : LamX.Tabs T H' := h.ext s
section
variable {K : PySem.W.Frag} {CF CB CN CT : Addr} {T : List (Addr × Str)} {H : Hp} {Q Q' : VK} {E' : XK}
theorem out_four {v x : V} (hE : ∀ cls d H', HeardE CB CN CT Q cls d H' → E' cls d H') (ha : Arg H v) (hT : LamX.Tabs T H) (q : ∀ p H2, Same H H2 → LamX.Tabs T H2 → H2 p = some (.tup [.str "four", .str "four"]) → Q (.ref p) H2) : spOut K CF CB CN CT [v, x] H Q' E' :=
  ⟨v, x, rfl, .inl ⟨ha, fun d nd => hE _ _ _ ⟨d, rfl, .inl ⟨rfl, _, upd_same, fun p H2 s e => q p H2 ((same_upd nd).trans s) (hT.ext ((same_upd nd).trans s)) e⟩⟩⟩⟩
theorem out_num {v : Addr} {b : List Int} {x : V} (hE : ∀ cls d H', HeardE CB CN CT Q cls d H' → E' cls d H') (hv : FourAt CF H v b) (ha : Arg H x) (hr : inR x 1 60 = false) (hT : LamX.Tabs T H) (q : ∀ p H2, Same H H2 → LamX.Tabs T H2 → H2 p = some (.tup [.str "number", .str "bend"]) → Q (.ref p) H2) : spOut K CF CB CN CT [.ref v, x] H Q' E' :=
  ⟨.ref v, x, rfl, .inr (.inl ⟨⟨v, b, rfl, hv⟩, ha, hr, fun d nd => hE _ _ _ ⟨d, rfl, .inr (.inl ⟨rfl, _, upd_same, fun p H2 s e => q p H2 ((same_upd nd).trans s) (hT.ext ((same_upd nd).trans s)) e⟩)⟩⟩)⟩
theorem out_many {v : Addr} {b r : List Int} {k : Nat} {n : Int} (hE : ∀ cls d H', HeardE CB CN CT Q cls d H' → E' cls d H') (hv : FourAt CF H v b) (n1 : 1 ≤ n) (n60 : n ≤ 60) (fb : IsF b) (d : Dn b k r) (lo : Low r) (hk : 200 < k) (hT : LamX.Tabs T H) (q : ∀ p H2, Same H H2 → LamX.Tabs T H2 → H2 p = some (.tup [.str "letters", .int 200]) → Q (.ref p) H2) : spOut K CF CB CN CT [.ref v, .int n] H Q' E' :=
  ⟨.ref v, .int n, rfl, .inr (.inr ⟨v, b, r, k, n, rfl, rfl, n1, n60, hv, fb, d, lo, fun _ d H' s nd hd => hE _ _ _ ⟨d, rfl, .inr (.inr ⟨rfl, _, _, hd, fun p H2 s2 e => q p H2 (s.trans s2) (hT.ext (s.trans s2)) e⟩)⟩, fun z => by omega⟩)⟩
theorem out_non {G : Hp → Prop} {v : Addr} {b r : List Int} {k : Nat} {n : Int} (hQ : ∀ v H', (∀ H2, Same H' H2 → G H2) → Q' v H') (hv : FourAt CF H v b) (n1 : 1 ≤ n) (n60 : n ≤ 60) (fb : IsF b) (d : Dn b k r) (lo : Low r) (hk : k ≤ 200) (hT : LamX.Tabs T H) (q : ∀ H2, Same H H2 → LamX.Tabs T H2 → G H2) : spOut K CF CB CN CT [.ref v, .int n] H Q' E' :=
  ⟨.ref v, .int n, rfl, .inr (.inr ⟨v, b, r, k, n, rfl, rfl, n1, n60, hv, fb, d, lo, fun z => by omega, fun _ u refs R H' s _ _ _ => hQ _ _ fun H2 s2 => q H2 (s.trans s2) (hT.ext (s.trans s2))⟩)⟩
end
def spLaw (K : PySem.W.Frag) (PL : Addr) : Sp := fun vs H Q _ => ∃ (a : Addr) (ns : List Int), vs = [.ref a] ∧ SqL K H a (ns.map V.int) ∧ H PL = some (.tbl #[]) ∧ ∀ H', Q (.bl true) H'
abbrev nLaw : List Str := ["_law_script", "_law_mill_here", "_law_heard_here", "_law_far", "_law_four", "_law_none", "_law_odd"]
theorem tupU {H : Hp} {l p : Addr} {xs ys : List V} {o : HO} (h : H p = some (.tup xs)) (e : H l = some (.lst ys)) : upd H l o p = some (.tup xs) := by rw [upd_ne (ne_of h e (fun z => nomatch z))]; exact h
theorem tupE {H H' : Hp} {p : Addr} {xs : List V} (h : H p = some (.tup xs)) (e : LamX.ExtN H H') : H' p = some (.tup xs) := e _ _ h (fun _ z => nomatch z)
theorem lstE {H H' : Hp} {p : Addr} {xs : List V} (h : H p = some (.lst xs)) (e : LamX.ExtN H H') : H' p = some (.lst xs) := e _ _ h (fun _ z => nomatch z)
abbrev qLam : Str := (envOfC "law" (defScope sLaw) 0 0 .none).qual ++ "<lambda>"
section
variable {P : Program} {w : World} {K : PySem.W.Frag} {mg : Str → Option Value} {base : Heap}
theorem scLaw : FnScope nLaw ["_law_script"] (defScope sLaw) := ⟨rfl, rfl, rfl, by decide +kernel, rfl, by decide +kernel, by decide +kernel⟩
theorem ok_law {f CF fI CE CB CN CT fOne fH cL PL : Addr} {fd fdI fdOne fdH : FuncData}
    (hx : ∃ (oc : Value) (od : Option Addr) (kV doc pm : Value) (an : Option Addr) (ct : Value) (osl : Array (Option Value)), fd = PySem.W.fnOf "law" "law" (defArgs sLaw) (defBody sLaw) (defScope sLaw) .none kV doc pm an (.ref cL) ct ∧ K.lookup f = some ⟨oc, od, .func fd, osl⟩ ∧ PySem.W.codeIn K (.ref cL) "law" = true)
    (B : Blt mg) (TF : FourTxt K mg CF) (M : Mk K CF fI) (GF : FnOk P w K mg base CX0 4 fI fdI ["self", "bends"] (spFour CF)) (bF : Binds K fdI ["self", "bends"] [])
    (T : Errs K mg CE CB CN CT) (TB : LamX.TabB base mg cL PL)
    (cM : Cal P w K mg base CX0 1 "_law_mill" ["_law_script"] (spMill K)) (cG : Cal P w K mg base CX0 1 "_law_grain" ["_law_mill_here", "_law_many"] spGrain) (cP : Cal P w K mg base CX0 2 "_law_pick" ["_law_mill_here", "_law_some"] (spPick K))
    (cA : Cal P w K mg base CX0 6 "_law_all_right" ["_law_mill_here", "_law_size"] spAll)
    (mOne : mg "_law_one_right" = some (.ref fOne)) (kOne : PySem.W.keepIn K (.ref fOne) = true) (bOne : Binds K fdOne ["_law_mill_here"] []) (GOne : FnG P w K mg base 6 fOne fdOne ["_law_mill_here"] spOne)
    (cO : Cal P w K mg base (L2.CX P w) 4 "turned_out" ["four", "bend"] (spOut K CF CB CN CT))
    (mH : mg "_law_heard" = some (.ref fH)) (FuH : Fun K "_law_heard" "_law_heard" sHeard fH fdH) (bH : Binds K fdH ["_law_ask"] []) :
    FnG P w K mg base 7 f fd ["_law_script"] (spLaw K PL) := by
  obtain ⟨fM, fdM, mM, kM, bM, GM⟩ := cM
  obtain ⟨fG, fdG, mG, kG, bG, GG⟩ := cG
  obtain ⟨fP, fdP, mP, kP, bP, GP⟩ := cP
  obtain ⟨fA, fdA, mA, kA, bA, GA⟩ := cA
  obtain ⟨fO, fdO, mO, kO, bO, GO⟩ := cO
  obtain ⟨oc, od, kV, doc, pm, an, ct, osl, rfl, lk, hcd⟩ := hx
  obtain ⟨ocH, odH, kVH, docH, pmH, anH, cdH, ctH, oslH, rfl, lkH, hcH⟩ := FuH.ex
  refine okGC lk hcd scLaw (fun vs H Q E h => ?_) (fun A outer s H vs Q E hgA hr h => ?_)
  · obtain ⟨a, ns, rfl, _⟩ := h
    rfl
  · obtain ⟨a, ns, rfl, ha, hP, q⟩ := h
    have hgd : (A.deeper (envOfC "law" (defScope sLaw) s.heap.objs.size f (.ref cL))).guards = some [] := hgA
    have hr1 : Room 1 _ := hr.mono (by decide)
    have hr2 : Room 2 _ := hr.mono (by decide)
    have hr4 : Room 4 _ := hr.mono (by decide)
    have hr5 : Room 5 _ := hr.mono (by decide)
    have hu := hu_of hr
    have hmT : (PL, qLam) ∈ [(PL, qLam)] := List.mem_singleton.mpr rfl
    have huT : ∀ p ∈ [(PL, qLam)], p.1 = PL → p.2 = qLam := fun p hp _ => by rw [List.mem_singleton.mp hp]
    refine ⟨_, pss_cons (ps_set (i := 1) scLaw.nd rfl (Or.inl rfl) (pe_call GM hr1 rfl mM kM bM .nil pass0 (pa_cons (pv 0) pa_nil)))
      (pss_cons (ps_if (pt_not (pt_val (pe_call GA hr rfl mA kA bA .nil pass0 (pa_cons (pv 1) (pa_cons (pe_op op_add pe_int (pe_call GG hr1 rfl mG kG bG .nil pass0 (pa_cons (pv 1) (pa_cons pe_int pa_nil)))) pa_nil))))) (pss_one (ps_ret pe_bl)) pss_nil)
      (pss_cons (ps_if (PW.pt (pw_or (pt_not (pt_val (pe_callG GOne hgd hr rfl mOne kOne bOne .nil (pa_cons (pv 1) pa_nil)))) (pw_or1 (pt_not (pt_val (pe_callG GOne hgd hr rfl mOne kOne bOne .nil (pa_cons (pv 1) pa_nil))))))) (pss_one (ps_ret pe_bl)) pss_nil)
      (pss_cons (ps_asg (pe_tup (pa_cons (pe_make M GF hr5 rfl TF.gC bF .nil pass0 (pa_cons (pe_lst (pa_cons pe_int (pa_cons pe_int (pa_cons pe_int (pa_cons pe_int pa_nil))))) pa_nil))
          (pa_cons (pe_call GP hr2 rfl mP kP bP .nil pass0 (pa_cons (pv 1) (pa_cons (pe_lst (pa_cons pe_non (pa_cons pe_str (pa_cons (pe_lst (pa_cons pe_int (pa_cons pe_int (pa_cons pe_int (pa_cons pe_int pa_nil))))) (pa_cons pe_int (pa_cons pe_bl pa_nil)))))) pa_nil)))
          (pa_cons (pe_call GP hr2 rfl mP kP bP .nil pass0 (pa_cons (pv 1) (pa_cons (pe_lst (pa_cons pe_int (pa_cons pe_int (pa_cons (pe_un un_neg pe_int) (pa_cons pe_bl (pa_cons pe_non (pa_cons pe_str (pa_cons (pe_lst (pa_cons pe_int pa_nil)) (pa_cons (pe_op op_pow pe_int pe_int) pa_nil))))))))) pa_nil))) pa_nil))))
        (pg_tup rfl (pgs_cons (pg_name (i := 4) scLaw.nd rfl (Or.inr rfl)) (pgs_cons (pg_name (i := 6) scLaw.nd rfl (Or.inr rfl)) (pgs_cons (pg_name (i := 5) scLaw.nd rfl (Or.inr rfl)) pgs_nil)))))
      (pss_cons (ps_set (i := 2) scLaw.nd rfl (Or.inl rfl) (pe_lst (pa_cons (LamX.pe_lamcall (k := 4) (T := [(PL, qLam)]) (Ng := nHeard) (a := "_law_ask") (t := fun E => tCall (spOut K CF CB CN CT) [] E _) rfl mH FuH.kp lkH hcH bH scHeard rfl (Or.inl rfl) (heard_gives T B) TB rfl hmT huT hr (LamX.lamS_by (sc := defScope sLaw) (by decide +kernel)) rfl (fun _ _ _ _ _ => rfl)
          (fun A outer s H E f c' hr => pe_call (E := E) GO hr rfl mO kO bO .nil (passes_call (W := fun cls d σ H => E cls d H) (takes_of rfl rfl rfl rfl) (fun _ _ _ _ h => h)) (pa_cons (pv 6) (pa_cons (pv 5) pa_nil)))) pa_nil)))
      (pss_cons (ps_expr (pe_bm PySem.F.plainAttrs_list PySem.F.slot_list_append PySem.F.type_list_append mt_append (pv 2) (pa_cons (LamX.pe_lamcall (k := 4) (T := [(PL, qLam)]) (Ng := nHeard) (a := "_law_ask") (t := fun E => tCall (spOut K CF CB CN CT) [] E _) rfl mH FuH.kp lkH hcH bH scHeard rfl (Or.inl rfl) (heard_gives T B) TB rfl hmT huT hr (LamX.lamS_by (sc := defScope sLaw) (by decide +kernel)) rfl (fun _ _ _ _ _ => rfl)
          (fun A outer s H E f c' hr => pe_call (E := E) GO hr rfl mO kO bO .nil (passes_call (W := fun cls d σ H => E cls d H) (takes_of rfl rfl rfl rfl) (fun _ _ _ _ h => h)) (pa_cons (pv 4) (pa_cons (pv 5) pa_nil)))) pa_nil)))
      (pss_cons (ps_expr (pe_bm PySem.F.plainAttrs_list PySem.F.slot_list_append PySem.F.type_list_append mt_append (pv 2) (pa_cons (LamX.pe_lamcall (k := 4) (T := [(PL, qLam)]) (Ng := nHeard) (a := "_law_ask") (t := fun E => tCall (spOut K CF CB CN CT) [] E _) rfl mH FuH.kp lkH hcH bH scHeard rfl (Or.inl rfl) (heard_gives T B) TB rfl hmT huT hr (LamX.lamS_by (sc := defScope sLaw) (by decide +kernel)) rfl (fun _ _ _ _ _ => rfl)
          (fun A outer s H E f c' hr => pe_call (E := E) GO hr rfl mO kO bO .nil (passes_call (W := fun cls d σ H => E cls d H) (takes_of rfl rfl rfl rfl) (fun _ _ _ _ h => h)) (pa_cons (pv 4) (pa_cons pe_int pa_nil)))) pa_nil)))
      (pss_cons (ps_set (i := 3) scLaw.nd rfl (Or.inr rfl) (pe_make M GF hr5 rfl TF.gC bF .nil pass0 (pa_cons (pe_lst (pa_cons pe_int (pa_cons (pe_op op_mul pe_int pe_int) (pa_cons pe_int (pa_cons (pe_op op_mul pe_int pe_int) pa_nil))))) pa_nil)))
      (pss_cons (ps_expr (pe_bm PySem.F.plainAttrs_list PySem.F.slot_list_append PySem.F.type_list_append mt_append (pv 2) (pa_cons (LamX.pe_lamcall (k := 4) (T := [(PL, qLam)]) (Ng := nHeard) (a := "_law_ask") (t := fun E => tCall (spOut K CF CB CN CT) [] E _) rfl mH FuH.kp lkH hcH bH scHeard rfl (Or.inl rfl) (heard_gives T B) TB rfl hmT huT hr (LamX.lamS_by (sc := defScope sLaw) (by decide +kernel)) rfl (fun _ _ _ _ _ => rfl)
          (fun A outer s H E f c' hr => pe_call (E := E) GO hr rfl mO kO bO .nil (passes_call (W := fun cls d σ H => E cls d H) (takes_of rfl rfl rfl rfl) (fun _ _ _ _ h => h)) (pa_cons (pv 3) (pa_cons pe_int pa_nil)))) pa_nil)))
      (pss_cons (ps_expr (pe_bm PySem.F.plainAttrs_list PySem.F.slot_list_append PySem.F.type_list_append mt_append (pv 2) (pa_cons (LamX.pe_lamcall (k := 4) (T := [(PL, qLam)]) (Ng := nHeard) (a := "_law_ask") (t := fun E => tCall (spOut K CF CB CN CT) [] E _) rfl mH FuH.kp lkH hcH bH scHeard rfl (Or.inl rfl) (heard_gives T B) TB rfl hmT huT hr (LamX.lamS_by (sc := defScope sLaw) (by decide +kernel)) rfl (fun _ _ _ _ _ => rfl)
          (fun A outer s H E f c' hr => pe_call (E := E) GO hr rfl mO kO bO .nil (passes_call (W := fun cls d σ H => E cls d H) (takes_of rfl rfl rfl rfl) (fun _ _ _ _ h => h)) (pa_cons (pv 3) (pa_cons pe_int pa_nil)))) pa_nil)))
      (pss_cons (ps_if (pt_cmpR (op_neD hr.units) (pv 2) (pe_lst (pa_cons (pe_tup (pa_cons pe_str (pa_cons pe_str pa_nil))) (pa_cons (pe_tup (pa_cons pe_str (pa_cons pe_str pa_nil))) (pa_cons pe_non (pa_cons (pe_tup (pa_cons pe_str (pa_cons pe_int pa_nil))) (pa_cons (pe_tup (pa_cons pe_str (pa_cons pe_str pa_nil))) pa_nil)))))) (nomark _)) (pss_one (ps_ret pe_bl)) pss_nil)
      (pss_one (ps_ret (pe_cmpR (op_eqD hr.units) (pe_call (E := E0) GO hr4 rfl mO kO bO .nil (passF rfl rfl) (pa_cons (pe_make M GF hr5 rfl TF.gC bF .nil pass0 (pa_cons (pe_lst (pa_cons pe_int (pa_cons (pe_op op_mul pe_int pe_int) (pa_cons pe_int (pa_cons (pe_op op_mul pe_int pe_int) pa_nil))))) pa_nil)) (pa_cons pe_int pa_nil)))
        (pe_tup (pa_cons (pe_tup (pa_cons (pe_un un_neg pe_int) (pa_cons pe_int (pa_cons pe_int (pa_cons pe_int pa_nil))))) pa_nil)) (nomark _)))))))))))))), ?_⟩
    refine ⟨_, rfl, a, ns, rfl, ha, fun m H1 s1 nm c cells nc mk => ?_⟩
    have hP1 := s1 _ _ hP
    refine ⟨_, rfl, _, rfl, m, c, cells, 16, 0, rfl, mk, by omega, by decide, by decide, fun v H2 hv mk2 bt2 => ?_⟩
    refine ⟨_, _, rfl, rfl, m, c, cells, 1 + v, 1, by show [V.ref m, V.int (1 + (v : Int))] = _; rw [show ((1 + v : Nat) : Int) = 1 + (v : Int) from by omega], mk2, by omega, by omega, by omega, fun H3 mk3 bt3 => ?_⟩
    refine ⟨_, rfl, iF rfl ?_⟩
    refine ⟨_, rfl, m, c, cells, _, rfl, mk3, by omega, fun H4 mk4 bt4 => ?_⟩
    refine ⟨_, rfl, ?_⟩
    refine ⟨_, rfl, m, c, cells, _, rfl, mk4, by omega, fun H5 mk5 bt5 => ?_⟩
    refine ⟨_, rfl, iF rfl ?_⟩
    have b15 : But m H1 H5 := ((bt2.trans bt3).trans bt4).trans bt5
    have ne_m : ∀ {Hx : Hp} {n : Nat} {a : Addr}, MillC Hx m c cells n → Hx a = none → a ≠ m ∧ a ≠ c := fun mk e => ⟨by obtain ⟨o, h⟩ := mk.some_; exact (ne_of_none h e).symm, (ne_of_none mk.cs e).symm⟩
    have hPm : PL ≠ m := ne_of_none hP nm
    have hP5 := b15.keep _ _ hP1 hPm
    refine ⟨szl (by show 4 < 1000; omega), fun l6 nl6 => ?_⟩
    have sl6 := same_upd nl6 (o := .lst (four1.map V.int))
    refine fun x dx nx ndx nex => ?_
    have bx : l6 ≠ x := ne_of_none upd_same nx
    have bdx : l6 ≠ dx := ne_of_none upd_same ndx
    refine ⟨x, l6, dx, four1, rfl, upd_same, by rw [upd_ne bx, upd_ne bdx]; exact upd_same, four1_f, four1_g, by decide, fun H7 keep F7 => ⟨rfl, ?_⟩⟩
    have s57 : Same H5 H7 := sl6.trans (same_make nx ndx keep)
    have mk7 := mk5.same s57
    -- odd
    refine ⟨_, rfl, szl (by show 4 < 1000; omega), fun l8 nl8 => ⟨szl (by show 5 < 1000; omega), fun l9 nl9 => ?_⟩⟩
    have sl8 := same_upd nl8 (o := .lst (four1.map V.int))
    have e98 : (upd H7 l8 (.lst (four1.map V.int))) l8 = some (.lst (four1.map V.int)) := upd_same
    have sl9 := same_upd nl9 (o := .lst [.non, .str "0 1 4 1", .ref l8, .int 4, .bl true])
    have s79 := sl8.trans sl9
    refine ⟨m, c, cells, l9, _, _, rfl, mk7.same s79, by omega, SqL.of upd_same, (ne_m (mk7.same sl8) nl9).1, by show 0 < 5; omega, by show 5 < 1000; omega, fun i10 odd H10 hodd mk10 bt10 => ?_⟩
    have g10 : H10 l8 = some (.lst (four1.map V.int)) := bt10.keep _ _ (sl9 _ _ e98) (ne_m mk7 nl8).1
    have aOdd : Arg H10 odd := by
      have hmem := List.mem_of_getElem? hodd
      simp only [List.mem_cons, List.not_mem_nil, or_false] at hmem
      rcases hmem with rfl | rfl | rfl | rfl | rfl
      · exact .non
      · exact .str _
      · exact .lst g10
      · exact .int _
      · exact .bl _
    -- none
    refine ⟨_, rfl, _, rfl, szl (by show 1 < 1000; omega), fun l11 nl11 => ?_⟩
    have sl11 := same_upd nl11 (o := .lst [.int 4])
    have e11 : (upd H10 l11 (.lst [.int 4])) l11 = some (.lst [.int 4]) := upd_same
    refine ⟨_, _, rfl, rfl, ⟨by decide, by decide, by decide⟩, szl (by show 8 < 1000; omega), fun l12 nl12 => ?_⟩
    have sl12 := same_upd nl12 (o := .lst [.int 0, .int 61, .int (-1), .bl true, .non, .str "4", .ref l11, .int (10 ^ 30)])
    have s1012 := sl11.trans sl12
    refine ⟨m, c, cells, l12, _, _, rfl, mk10.same s1012, by omega, SqL.of upd_same, (ne_m (mk10.same sl11) nl12).1, by show 0 < 8; omega, by show 8 < 1000; omega, fun i13 nn H13 hnn mk13 bt13 => ?_⟩
    have g13 : H13 l11 = some (.lst [.int 4]) := bt13.keep _ _ (sl12 _ _ e11) (ne_m mk10 nl11).1
    have aNn : Arg H13 nn ∧ inR nn 1 60 = false := by
      have hmem := List.mem_of_getElem? hnn
      simp only [List.mem_cons, List.not_mem_nil, or_false] at hmem
      rcases hmem with rfl | rfl | rfl | rfl | rfl | rfl | rfl | rfl
      · exact ⟨.int _, by decide⟩
      · exact ⟨.int _, by decide⟩
      · exact ⟨.int _, by decide⟩
      · exact ⟨.bl _, by decide⟩
      · exact ⟨.non, by decide⟩
      · exact ⟨.str _, rfl⟩
      · exact ⟨.lst g13, rfl⟩
      · exact ⟨.int _, by decide⟩
    obtain ⟨aNn, hNn⟩ := aNn
    -- kept till here
    have b713 : But m H7 H13 := (((But.refl mk7.some_).same s79).trans bt10).same s1012 |>.trans bt13
    have F13 : FourAt CF H13 x four1 := by
      obtain ⟨t, d2, e1, e2⟩ := F7
      have k1 : x ≠ m := (ne_m (mk5.same sl6) nx).1
      have k2 : t ≠ m := by
        obtain ⟨turn, left, e3, _⟩ := mk7.at_
        exact ne_of e2 e3 (fun z => nomatch z)
      exact ⟨t, d2, b713.keep _ _ e1 k1, b713.keep _ _ e2 k2⟩
    have aOdd : Arg H13 odd := by
      cases aOdd with
      | int i => exact .int i
      | bl b => exact .bl b
      | non => exact .non
      | str x => exact .str x
      | @lst a xs q =>
        by_cases h : a = m
        · obtain ⟨turn, left, e3, _⟩ := mk13.at_
          exact .lst (by rw [h]; exact e3)
        · exact .lst (bt13.keep _ _ (s1012 _ _ q) h)
    have hP13 : H13 PL = some (.tbl #[]) := b713.keep _ _ (s57 _ _ hP5) hPm
    refine ⟨szl (by show 3 < 1000; omega), fun t13 nt13 => ⟨t13, _, rfl, SqT.of upd_same, rfl, _, _, rfl, _, _, rfl, _, _, rfl, rfl, ?_⟩⟩
    have st13 := same_upd nt13 (o := .tup [.ref x, odd, nn])
    generalize upd H13 t13 (.tup [.ref x, odd, nn]) = H14 at st13
    replace F13 := F13.same st13
    replace aOdd := aOdd.extN (extN_same st13)
    replace aNn := aNn.extN (extN_same st13)
    have hT14 : LamX.Tabs [(PL, qLam)] H14 := fun p hp => by rw [List.mem_singleton.mp hp]; exact LamX.TabS.nil (st13 _ _ hP13)
    clear b713 hP13 hP5 g13 g10 mk13 mk10 mk7 bt13 bt10 mk5 mk4 mk3 mk2 bt5 bt4 bt3 bt2
    refine ⟨hT14, fun H15 e15 t15 E' Q' hE hQ => ⟨_, rfl, _, rfl, out_four hE (aOdd.extN e15) t15 fun p1 H16 s16 t16 hp1 => ?_⟩⟩
    replace F13 := (F13.extN e15).same s16
    replace aNn := (aNn.extN e15).extN (extN_same s16)
    refine ⟨szl (by show 1 < 1000; omega), fun L nL => ?_⟩
    have sL := same_upd nL (o := .lst [.ref p1])
    have hL : (upd H16 L (.lst [.ref p1])) L = some (.lst [.ref p1]) := upd_same
    generalize upd H16 L (.lst [.ref p1]) = H17 at sL hL
    replace F13 := F13.same sL
    replace aNn := aNn.extN (extN_same sL)
    replace hp1 := sL _ _ hp1
    have t17 := t16.ext sL
    -- four, none
    refine ⟨_, rfl, .inl ⟨rfl, _, SqL.of hL⟩, t17, fun H18 e18 t18 E' Q' hE hQ => ⟨_, rfl, _, rfl, out_num hE (F13.extN e18) (aNn.extN e18) hNn t18 fun p2 H19 s19 t19 hp2 => ?_⟩⟩
    refine ⟨L, _, _, rfl, rfl, s19 _ _ (lstE hL e18), by rw [sizeLine_eq]; show 1 < _; omega, ?_⟩
    replace hL := s19 _ _ (lstE hL e18)
    replace F13 := ((F13.extN e18).same s19).updL (o := .lst ([.ref p1] ++ [.ref p2])) hL
    replace hp1 := tupU (o := .lst ([.ref p1] ++ [.ref p2])) (s19 _ _ (tupE hp1 e18)) hL
    replace hp2 := tupU (o := .lst ([.ref p1] ++ [.ref p2])) hp2 hL
    replace t19 := tabs_updL (o := .lst ([.ref p1] ++ [.ref p2])) t19 hL
    replace hL : (upd H19 L (.lst ([.ref p1] ++ [.ref p2]))) L = some (.lst [.ref p1, .ref p2]) := upd_same
    generalize upd H19 L (.lst ([.ref p1] ++ [.ref p2])) = H20 at hL F13 hp1 hp2 t19
    -- four, 60
    refine ⟨_, rfl, .inl ⟨rfl, _, SqL.of hL⟩, t19, fun H21 e21 t21 E' Q' hE hQ => ⟨_, rfl, out_non hQ (F13.extN e21) (by decide) (by decide) four1_f four1_d lowA (by decide) t21 fun H22 s22 t22 => ?_⟩⟩
    refine ⟨L, _, _, rfl, rfl, s22 _ _ (lstE hL e21), by rw [sizeLine_eq]; show 2 < _; omega, ?_⟩
    replace hL := s22 _ _ (lstE hL e21)
    replace hp1 := tupU (o := .lst ([.ref p1, .ref p2] ++ [.non])) (s22 _ _ (tupE hp1 e21)) hL
    replace hp2 := tupU (o := .lst ([.ref p1, .ref p2] ++ [.non])) (s22 _ _ (tupE hp2 e21)) hL
    replace t22 := tabs_updL (o := .lst ([.ref p1, .ref p2] ++ [.non])) t22 hL
    replace hL : (upd H22 L (.lst ([.ref p1, .ref p2] ++ [.non]))) L = some (.lst [.ref p1, .ref p2, .non]) := upd_same
    generalize upd H22 L (.lst ([.ref p1, .ref p2] ++ [.non])) = H23 at hL hp1 hp2 t22
    -- far
    refine ⟨_, _, rfl, rfl, .inl ⟨by decide, by decide⟩, _, _, rfl, rfl, .inl ⟨by decide, by decide⟩, szl (by show 4 < 1000; omega), fun lf nlf => ?_⟩
    have slf := same_upd nlf (o := .lst (far1.map V.int))
    refine fun y dy ny ndy ney => ?_
    have cy : lf ≠ y := ne_of_none upd_same ny
    have cdy : lf ≠ dy := ne_of_none upd_same ndy
    refine ⟨y, lf, dy, far1, rfl, upd_same, by rw [upd_ne cy, upd_ne cdy]; exact upd_same, far1_f, far1_g, by decide, fun H24 keepy FY => ⟨rfl, ?_⟩⟩
    have s24 : Same H23 H24 := slf.trans (same_make ny ndy keepy)
    replace hL := s24 _ _ hL
    replace hp1 := s24 _ _ hp1
    replace hp2 := s24 _ _ hp2
    replace t22 := t22.ext s24
    -- far, 4
    refine ⟨_, rfl, .inl ⟨rfl, _, SqL.of hL⟩, t22, fun H25 e25 t25 E' Q' hE hQ => ⟨_, rfl, out_many hE (FY.extN e25) (by decide) (by decide) far1_f far1_d lowB (by decide) t25 fun p4 H26 s26 t26 hp4 => ?_⟩⟩
    refine ⟨L, _, _, rfl, rfl, s26 _ _ (lstE hL e25), by rw [sizeLine_eq]; show 3 < _; omega, ?_⟩
    replace hL := s26 _ _ (lstE hL e25)
    replace FY := ((FY.extN e25).same s26).updL (o := .lst ([.ref p1, .ref p2, .non] ++ [.ref p4])) hL
    replace hp1 := tupU (o := .lst ([.ref p1, .ref p2, .non] ++ [.ref p4])) (s26 _ _ (tupE hp1 e25)) hL
    replace hp2 := tupU (o := .lst ([.ref p1, .ref p2, .non] ++ [.ref p4])) (s26 _ _ (tupE hp2 e25)) hL
    replace hp4 := tupU (o := .lst ([.ref p1, .ref p2, .non] ++ [.ref p4])) hp4 hL
    replace t26 := tabs_updL (o := .lst ([.ref p1, .ref p2, .non] ++ [.ref p4])) t26 hL
    replace hL : (upd H26 L (.lst ([.ref p1, .ref p2, .non] ++ [.ref p4]))) L = some (.lst [.ref p1, .ref p2, .non, .ref p4]) := upd_same
    generalize upd H26 L (.lst ([.ref p1, .ref p2, .non] ++ [.ref p4])) = H27 at hL FY hp1 hp2 hp4 t26
    -- far, 61
    refine ⟨_, rfl, .inl ⟨rfl, _, SqL.of hL⟩, t26, fun H28 e28 t28 E' Q' hE hQ => ⟨_, rfl, out_num hE (FY.extN e28) (.int 61) (by decide) t28 fun p5 H29 s29 t29 hp5 => ?_⟩⟩
    refine ⟨L, _, _, rfl, rfl, s29 _ _ (lstE hL e28), by rw [sizeLine_eq]; show 4 < _; omega, ?_⟩
    replace hL := s29 _ _ (lstE hL e28)
    replace hp1 := tupU (o := .lst ([.ref p1, .ref p2, .non, .ref p4] ++ [.ref p5])) (s29 _ _ (tupE hp1 e28)) hL
    replace hp2 := tupU (o := .lst ([.ref p1, .ref p2, .non, .ref p4] ++ [.ref p5])) (s29 _ _ (tupE hp2 e28)) hL
    replace hp4 := tupU (o := .lst ([.ref p1, .ref p2, .non, .ref p4] ++ [.ref p5])) (s29 _ _ (tupE hp4 e28)) hL
    replace hp5 := tupU (o := .lst ([.ref p1, .ref p2, .non, .ref p4] ++ [.ref p5])) hp5 hL
    replace hL : (upd H29 L (.lst ([.ref p1, .ref p2, .non, .ref p4] ++ [.ref p5]))) L = some (.lst [.ref p1, .ref p2, .non, .ref p4, .ref p5]) := upd_same
    generalize upd H29 L (.lst ([.ref p1, .ref p2, .non, .ref p4] ++ [.ref p5])) = H30 at hL hp1 hp2 hp4 hp5
    -- the list compared
    refine ⟨_, rfl, szl (by show 2 < 1000; omega), fun q1 nq1 => ⟨szl (by show 2 < 1000; omega), fun q2 nq2 => ⟨szl (by show 2 < 1000; omega), fun q4 nq4 => ⟨szl (by show 2 < 1000; omega), fun q5 nq5 => ⟨szl (by show 5 < 1000; omega), fun M2 nM2 => ?_⟩⟩⟩⟩⟩
    have sq1 := same_upd nq1 (o := .tup [.str "four", .str "four"])
    have sq2 := same_upd nq2 (o := .tup [.str "number", .str "bend"])
    have sq4 := same_upd nq4 (o := .tup [.str "letters", .int 200])
    have sq5 := same_upd nq5 (o := .tup [.str "number", .str "bend"])
    have sM := same_upd nM2 (o := .lst [.ref q1, .ref q2, .non, .ref q4, .ref q5])
    have s5 := sq5.trans sM
    have s4 := sq4.trans s5
    have s2 := sq2.trans s4
    have s1' := sq1.trans s2
    have cs : ∀ (x y : Str) (p : Addr) (Hx : Hp), Hx p = some (.tup [.str x, .str y]) → Dp K Hx (.ref p) (.tuple [.str x, .str y]) := fun x y p Hx h => .tup (SqT.of h) (.cons (.str x) (.cons (.str y) .nil))
    have ci : ∀ (x : Str) (i : Int) (p : Addr) (Hx : Hp), Hx p = some (.tup [.str x, .int i]) → Dp K Hx (.ref p) (.tuple [.str x, .int i]) := fun x i p Hx h => .tup (SqT.of h) (.cons (.str x) (.cons (.int i) .nil))
    refine ⟨.list [.tuple [.str "four", .str "four"], .tuple [.str "number", .str "bend"], .none, .tuple [.str "letters", .int 200], .tuple [.str "number", .str "bend"]], .list [.tuple [.str "four", .str "four"], .tuple [.str "number", .str "bend"], .none, .tuple [.str "letters", .int 200], .tuple [.str "number", .str "bend"]],
      .lst (SqL.of (s1' _ _ hL)) (.cons (cs _ _ _ _ (s1' _ _ hp1)) (.cons (cs _ _ _ _ (s1' _ _ hp2)) (.cons .non (.cons (ci _ _ _ _ (s1' _ _ hp4)) (.cons (cs _ _ _ _ (s1' _ _ hp5)) .nil))))),
      .lst (SqL.of upd_same) (.cons (cs _ _ _ _ (s2 _ _ upd_same)) (.cons (cs _ _ _ _ (s4 _ _ upd_same)) (.cons .non (.cons (ci _ _ _ _ (s5 _ _ upd_same)) (.cons (cs _ _ _ _ (sM _ _ upd_same)) .nil))))), by decide +kernel, by decide +kernel, ?_⟩
    refine ⟨_, rfl, iF (by decide +kernel) ?_⟩
    -- the last answer
    refine ⟨_, _, rfl, rfl, .inl ⟨by decide, by decide⟩, _, _, rfl, rfl, .inl ⟨by decide, by decide⟩, szl (by show 4 < 1000; omega), fun ln nln => ?_⟩
    generalize upd _ M2 (.lst [.ref q1, .ref q2, .non, .ref q4, .ref q5]) = H40 at nln
    refine fun z dz nz ndz nez => ?_
    have cz : ln ≠ z := ne_of_none upd_same nz
    have cdz : ln ≠ dz := ne_of_none upd_same ndz
    refine ⟨z, ln, dz, near1, rfl, upd_same, by rw [upd_ne cz, upd_ne cdz]; exact upd_same, near1_f, near1_g, by decide, fun H41 keepz FZ => ⟨rfl, ?_⟩⟩
    refine ⟨_, _, rfl, .inr (.inr ⟨z, near1, [0, 0, 1, 1], 200, 4, rfl, rfl, by decide, by decide, FZ, near1_f, near1_d, lowC, fun z => by omega, fun _ u refs R H42 s42 hu hR tl => ?_⟩)⟩
    have eR : R.mergeSort rle = [[-4, 8, 9, 9]] := by
      rw [tl.one (outs_tells (near1_d.isF near1_f).1 (by decide)), near1_o]
    rw [eR] at hR
    refine ⟨_, rfl, szl (by show 4 < 1000; omega), fun r1 nr1 => ⟨szl (by show 1 < 1000; omega), fun r2 nr2 => ?_⟩⟩
    have sr1 := same_upd nr1 (o := .tup ([-4, 8, 9, 9].map V.int))
    have sr2 := same_upd nr2 (o := .tup [.ref r1])
    have h1 : (upd H42 r1 (.tup ([-4, 8, 9, 9].map V.int))) r1 = some (.tup ([-4, 8, 9, 9].map V.int)) := upd_same
    have sr := sr1.trans sr2
    refine ⟨_, _, .tup (SqT.of (sr _ _ hu)) (dp_rows (rows_same sr hR)), .tup (SqT.of upd_same) (dp_rows (tp := true) (rows := [[-4, 8, 9, 9]]) (as := [r1]) (.cons (SqT.of (sr2 _ _ h1)) .nil)), shaped_rows true true _, shaped_rows true true _, ?_⟩
    have ee : PyData.eqv (.tuple ([[-4, 8, 9, 9]].map (encR true))) (.tuple ([[-4, 8, 9, 9]].map (encR true))) = true := eqv_refl_rows true true _
    rw [ee]
    exact q _
end
end BS
namespace BS
open PySem PySem.Spec PyProof.Rows L2
/-- the law's def, entered from the caller with one empty table of code objects at B; no repr is under way there -/
theorem enterG {P : Program} {w : World} {K : PySem.W.Frag} {mg mb : Str → Option Value} {k : Nat} {fa a c B : Addr} {fd : FuncData} {x : Str} {sp : Sp} {s₁ : Shared} {vs : List Value} {ns : List Int}
    (KX : K.In s₁.heap) (hns : s₁.heap.Ns mainGlobals mg) (hb : s₁.heap.Ns builtinsNs mb) (hbb : ∀ x : Str, x ≠ "__name__" → mb x = bootBuiltins x) (hlim : s₁.heap.NoLimit) (hg : s₁.gens = #[])
    (hT : s₁.heap.get? B = some { cls := .none, data := .fields #[] }) (nT : K.lookup B = none) (C : PySem.W.CodeHd s₁.heap c B)
    (hbm : ∃ (bm : Addr) (ob : Obj), mg "__builtins__" = some (.ref bm) ∧ bm ≠ builtinsNs ∧ s₁.heap.get? bm = some ob ∧ ob.cls = .type "module" ∧ ob.dict = some builtinsNs ∧ ob.data = .plain)
    (ha : s₁.heap.get? a = some { cls := .type "list", data := .seq vs.toArray }) (hi : IntsAre vs ns) (hl : ns.length ≤ sizeLine) (hr : Room k callerA)
    (F : ∀ base : Heap, K.In base → base.Ns mainGlobals mg → LamX.TabB base mg c B → FnG P w K mg base k fa fd [x] sp) (hbind : ∀ (s : Shared) (u : Value), BindsTo s fd ⟨[u], []⟩ [(x, u)])
    (hsp : ∀ H : Hp, H B = some (.tbl #[]) → SqL K H a (ns.map V.int) → sp [.ref a] H (fun v _ => v = .bl true) fun _ _ _ => False) :
    codeAny (model P w) callerA (.call (.ref fa) ⟨[.ref a], []⟩) (fun r s' => r = .ok (.ret (.bool true)) ∧ OldK s₁.heap s'.heap ∧ s'.os = s₁.os ∧ AllBare s'.gens) s₁ := by
  have rv := vals_ints hi
  have lenV := hi.length
  have aB : a ≠ B := fun z => by
    rw [z, hT] at ha
    have z' : Data.fields #[] = Data.seq vs.toArray _ := congrArg Obj.data (Option.some.inj ha)
    cases z'
  -- one heap: the table, and the script where the part does not hold it
  have key : ∀ H : Hp, H B = some (.tbl #[]) → (∀ b, b ≠ B → H b = none ∨ (b = a ∧ K.lookup a = none ∧ ∃ o xs, H a = some (.frz o (.lst xs)))) → SqL K H a (ns.map V.int) → HOk P w H s₁.heap →
      codeAny (model P w) callerA (.call (.ref fa) ⟨[.ref a], []⟩) (fun r s' => r = .ok (.ret (.bool true)) ∧ OldK s₁.heap s'.heap ∧ s'.os = s₁.os ∧ AllBare s'.gens) s₁ := by
    intro H hB hO hS hok
    have put : ∀ {b : Addr} {o : Obj}, s₁.heap.get? b = some o → (∀ vs n, o.data ≠ .seq vs n) → o.data ≠ .fields #[] → (hidT s₁.heap H).get? b = some o := fun {b o} e h1 h2 => by
      refine hidT_get e ?_
      by_cases q : b = B
      · rw [q, hT] at e
        cases e
        exact absurd rfl h2
      · rcases hO b q with z | ⟨z, _⟩
        · exact z
        · rw [z, ha] at e
          cases e
          exact absurd rfl (h1 _ _)
    have nsK : ∀ {b : Addr} {m : Str → Option Value}, s₁.heap.Ns b m → (hidT s₁.heap H).Ns b m := fun {b m} ⟨o, es, ep, e, d, r⟩ => ⟨o, es, ep, put e (fun vs n z => by rw [d] at z; cases z) (fun z => by rw [d] at z; cases z), d, r⟩
    have hKb : K.In (hidT s₁.heap H) := fun b o e => hidT_get (KX b o e) (by
      by_cases q : b = B
      · rw [q, nT] at e
        cases e
      · rcases hO b q with z | ⟨z, n, _⟩
        · exact z
        · rw [z, n] at e
          cases e)
    have hM : L2.Mod K mg (hidT s₁.heap H) := ⟨hKb, nsK hns, ⟨mb, nsK hb, hbb⟩, let ⟨mc, h1, h2⟩ := hlim; ⟨mc, nsK h1, h2⟩⟩
    have TB : LamX.TabB (hidT s₁.heap H) mg c B := by
      refine ⟨?_, ?_, fun z => ?_⟩
      · obtain ⟨o, us, file, tf, flags, tg, inF, text, tt, e1, r1, r2, r3, r4, r5, r6, r7, r8, hne⟩ := C
        refine ⟨o, us, file, tf, flags, tg, inF, text, tt, put e1 (fun vs n z => ?_) (fun z => ?_), r1, r2, r3, r4, r5, r6, r7, r8, hne⟩
        · rw [r2] at z
          cases z
        · rw [r2] at z
          cases z
          simp at r3
      · obtain ⟨bm, ob, b1, b2, b3, b4, b5, b6⟩ := hbm
        refine ⟨bm, ob, b1, b2, fun q => ?_, fun q => ?_, put b3 (fun vs n z => ?_) (fun z => ?_), b4, b5, b6⟩
        · obtain ⟨o, es, ep, e, hd, _⟩ := hns
          rw [q, e] at b3
          cases b3
          rw [hd] at b6
          cases b6
        · rw [q, hT] at b3
          cases b3
          cases b6
        · rw [b6] at z
          cases z
        · rw [b6] at z
          cases z
      · obtain ⟨o, es, ep, e, hd, _⟩ := hns
        rw [z, hT] at e
        cases e
        cases hd
    have e0 : Env0 P w K mg (hidT s₁.heap H) callerA [] s₁ H := ⟨rfl, hM, fun b o e => of_hidT e, Nat.le_of_eq (hidT_size _ _), trivial, fun b hb => absurd (show b ∈ ([] : List Addr) from hb) (by simp), hok, .of_eq hg⟩
    refine codeAny_mono ((F _ hKb (nsK hns) TB).run callerA [] s₁ H ⟨[.ref a], []⟩ [.ref a] [.ref a] _ _ rfl hr e0 (hbind s₁ (.ref a)) (.cons rfl .nil) (hsp H hB hS)) fun r s' h => ?_
    cases r with
    | error e => exact (show False from h).elim
    | ok fl =>
      cases fl with
      | next => exact False.elim h
      | brk => exact False.elim h
      | cont => exact False.elim h
      | ret u =>
        obtain ⟨v, H', os, bare, un, hok', r', q⟩ := h
        have q' : v = .bl true := q
        subst q'
        obtain rfl : u = Value.bool true := r'
        have stays : ∀ b o, b ≠ B → s₁.heap.get? b = some o → s'.heap.get? b = some o := fun b o nb e => by
          rcases hO b nb with z | ⟨z, _, ob, xs, f⟩
          · exact un.keep b o e z (by intro z; exact absurd (show b ∈ ([] : List Addr) from z) (by simp)) (by simp)
          · rw [z] at e ⊢
            obtain ⟨e1, _⟩ := hok a _ f
            obtain ⟨e2, _⟩ := hok' a _ (un.frzs a ob _ f)
            rw [e] at e1; cases e1
            exact e2
        obtain ⟨more, hmore⟩ := un.tbls B #[] hB
        have grown : s'.heap.get? B = some { cls := .none, data := .fields (#[] ++ more) } := hok' B _ hmore
        refine ⟨rfl, ⟨fun b o e => ?_, fun b o e => ?_⟩, os, bare⟩
        · by_cases hb : b = B
          · rw [hb] at e ⊢
            rw [hT] at e
            cases e
            exact .inr (.inl ⟨(C.tab hT).isCodeTable, rfl, #[], more, rfl, grown⟩)
          · exact .inl (stays b o hb e)
        · by_cases hb : b = B
          · rw [hb]; exact ⟨_, grown⟩
          · exact ⟨o, stays b o hb e⟩
  cases hk : K.lookup a with
  | some o =>
    have e := KX a o hk
    rw [ha] at e
    cases e
    refine key (fun b => if b = B then some (.tbl #[]) else none) (if_pos rfl) (fun b nb => .inl (if_neg nb)) (.inr ⟨_, vs.toArray, _, hk, rfl, rfl, rfl, by rw [List.size_toArray, lenV]; exact hl, by simpa using rv⟩) (fun b u z => ?_)
    by_cases q : b = B
    · cases (if_pos q).symm.trans z
      rw [q]; exact hT
    · cases (if_neg q).symm.trans z
  | none =>
    refine key (fun b => if b = B then some (.tbl #[]) else if b = a then some (.frz { cls := .type "list", data := .seq vs.toArray } (.lst (ns.map V.int))) else none) (if_pos rfl) (fun b nb => ?_) (.inl (.inr ⟨{ cls := .type "list", data := .seq vs.toArray }, (if_neg aB).trans (if_pos rfl)⟩)) (fun b u z => ?_)
    · by_cases q : b = a
      · exact .inr ⟨q, hk, _, _, (if_neg aB).trans (if_pos rfl)⟩
      · exact .inl ((if_neg nb).trans (if_neg q))
    · by_cases q : b = B
      · cases (if_pos q).symm.trans z
        rw [q]; exact hT
      · by_cases q2 : b = a
        · cases (if_pos q2).symm.trans ((if_neg q).symm.trans z)
          rw [q2]
          exact ⟨ha, by rw [List.length_map]; exact hl, vs, _, rv, ha⟩
        · cases (if_neg q2).symm.trans ((if_neg q).symm.trans z)
/-- what the end asks of the law's def -/
def EndG (l : PySem.W.OpenLaw) (w : World) (K : PySem.W.Frag) (k : Nat) (x : Str) (mg : Str → Option Value) (fa : Addr) (h : Heap) : Prop :=
  ∃ (fd : FuncData) (c B : Addr) (sp : Sp), h.get? B = some { cls := .none, data := .fields #[] } ∧ K.lookup B = none ∧ PySem.W.CodeHd h c B ∧ (∀ (s : Shared) (u : Value), BindsTo s fd ⟨[u], []⟩ [(x, u)]) ∧
    (∀ (H : Hp) (a : Addr) (ns : List Int), H B = some (.tbl #[]) → SqL K H a (ns.map V.int) → sp [.ref a] H (fun v _ => v = .bl true) fun _ _ _ => False) ∧
    ∀ base : Heap, K.In base → base.Ns mainGlobals mg → LamX.TabB base mg c B → FnG l.prog w K mg base k fa fd [x] sp
theorem walkG {l : PySem.W.OpenLaw} {n k : Nat} {q : Program} {loose : List Str} {XP : (Str → Option Value) → Heap → Prop} {YP : World → Heap → Prop} {d : DefRec} {K : Params → PySem.W.Frag} {x : Str}
    (hn : l.most = some n) (hn2 : n ≤ sizeLine) (hdf : d.params.defaults = []) (hr : Room k callerA) (hY : ∀ (w : World) (h : Heap), YP w h → (K w.params).In h)
    (F : ∀ (w : World) (mg : Str → Option Value) (fa : Addr) (h : Heap), YP w h → (K w.params).In h → h.Ns mainGlobals mg → mg d.name = some (.ref fa) → EndG l w (K w.params) k x mg fa h) :
    PySem.W.WalkO q loose XP YP l.row.toRowW d [] (fun f vs => PySem.call f vs) := by
  refine Att.attach_callB hn hdf fun w s₀ s₁ mg mb fa o pm cd doc a vs ns G Y ho hd hcd hmg hobj hints hlen hbits hg => ?_
  have KX := hY w _ Y
  obtain ⟨fd, c, B, sp, hT, nT, C, hb, hsp, hF⟩ := F w mg fa _ Y KX G.T.g hmg
  exact enterG KX G.T.g G.T.b G.T.builtins G.T.nolimit hg hT nT C G.T.bmain hobj hints (Nat.le_trans hlen hn2) hr hF hb fun H hH hS => hsp H a ns hH hS
end BS
namespace BS
open PySem PySem.Spec PyProof.Rows L2
/-- a def as it stands behind the top -/
def Fd (K : PySem.W.Frag) (mg : Str → Option Value) (x : Str) (st : Stmt) : Prop := ∃ (f : Addr) (fd : FuncData), mg x = some (.ref f) ∧ L2.Fun K x x st f fd
theorem fd_mk {K : PySem.W.Frag} {h : Heap} {mg : Str → Option Value} {x : Str} {st : Stmt} {f : Addr} {oc : Value} {od an : Option Addr} {osl : Array (Option Value)} {kV doc pm cdv ct : Value} (X : K.In h) (G : h.Ns mainGlobals mg) (a : PySem.W.nsIn K mainGlobals x = some (some (.ref f)))
    (l : K.lookup f = some ⟨oc, od, .func (PySem.W.fnOf x x (defArgs st) (defBody st) (defScope st) .none kV doc pm an cdv ct), osl⟩) (c : PySem.W.codeIn K cdv x = true) (k : PySem.W.keepIn K (.ref f) = true) : Fd K mg x st :=
  ⟨f, _, PySem.W.mg_of X G a, fun_mk l c k⟩
theorem Fd.cal {P : Program} {w : World} {K : PySem.W.Frag} {mg : Str → Option Value} {base : Heap} {CX : CXT} {k : Nat} {x : Str} {st : Stmt} {ps : List Str} {sp : Sp} (D : Fd K mg x st)
    (hb : ∀ (kV doc pm : Value) (an : Option Addr) (cdv ct : Value) (us : List Value), us.length = ps.length → bindArgs (PySem.W.fnOf x x (defArgs st) (defBody st) (defScope st) .none kV doc pm an cdv ct) ⟨us, []⟩ = pure (ps.zip us))
    (ok : ∀ f fd, L2.Fun K x x st f fd → FnOk P w K mg base CX k f fd ps sp) : Cal P w K mg base CX k x ps sp := by
  obtain ⟨f, fd, m, F⟩ := D
  exact ⟨f, fd, m, F.kp, F.binds hb, ok f fd F⟩
/-- the error classes -/
theorem kit_of {K : PySem.W.Frag} {t : Value} {B : Addr} {b : Bool} (h0 : (t == Value.ref B) = false) (h2 : PySem.W.isClsIn K B = true) (h3 : PySem.W.typeIn K (.ref B) = some (.type "type")) (h4 : PySem.W.subIn K t (.ref B) = some b) : PySem.W.kitOne K t (.ref B) = some b := by
  have e2 : ((PySem.W.clsIn K B).isSome && PySem.W.typeIn K (.ref B) == some (.type "type")) = true := by
    have h2' : (PySem.W.clsIn K B).isSome = true := h2
    rw [h2', h3] <;> rfl
  show (if (t == Value.ref B) = true then some true else (if ((PySem.W.clsIn K B).isSome && PySem.W.typeIn K (.ref B) == some (.type "type")) = true then PySem.W.subIn K t (.ref B) else none)) = some b
  rw [h0, if_neg Bool.false_ne_true, if_pos e2]
  exact h4
theorem exm_of' {K : PySem.W.Frag} {t : Value} {B : Addr} {b : Bool} (h1 : PySem.W.subIn K (.ref B) (.type "BaseException") = some true) (h2 : PySem.W.isClsIn K B = true) (h3 : PySem.W.typeIn K (.ref B) = some (.type "type")) (h4 : PySem.W.subIn K t (.ref B) = some b) : PySem.W.exmOne K t (.ref B) = some b := by
  have e1 : (PySem.W.subIn K (.ref B) (.type "BaseException") == some true) = true := by rw [h1] <;> rfl
  have e2 : ((PySem.W.clsIn K B).isSome && PySem.W.typeIn K (.ref B) == some (.type "type")) = true := by
    have h2' : (PySem.W.clsIn K B).isSome = true := h2
    rw [h2', h3] <;> rfl
  show (if (PySem.W.subIn K (.ref B) (.type "BaseException") == some true) = true then (if ((PySem.W.clsIn K B).isSome && PySem.W.typeIn K (.ref B) == some (.type "type")) = true then PySem.W.subIn K t (.ref B) else none) else none) = some b
  rw [if_pos e1, if_pos e2]
  exact h4
/-- what each error class tells -/
structure ClE (K : PySem.W.Frag) (C : Addr) : Prop where
  isC : PySem.W.isClsIn K C = true
  ty : PySem.W.typeIn K (.ref C) = some (.type "type")
  ga : PySem.W.findIn K (.ref C) "__getattribute__" = some (some (.builtin "BaseException.__getattribute__"))
  gg : PySem.W.findIn K (.ref C) "__getattr__" = some none
  ex : PySem.W.subIn K (.ref C) (.type "BaseException") = some true
  ha : PySem.W.findIn K (.ref C) "__class__" = some (some (.builtin "object.__class__"))
  hn : PySem.W.specialIn K (.builtin "object.__class__") "__get__" = some (some (.builtin "getset_descriptor.__get__"))
  htk : PySem.W.takesIn K (.builtin "object.__class__") = some true
  hm : PySem.W.mroIn K C (.type "object") = some true
  hd : PySem.W.hasDictIn K C = true
  kp : PySem.W.keepIn K (.ref C) = true
theorem ClE.txt {K : PySem.W.Frag} {C : Addr} {names : List Str} (T : ClE K C) (no : ∀ f, f ∈ names → PySem.W.findIn K (.ref C) f = some none) : ExcTxt K C names := ⟨T.isC, T.ga, T.gg, T.ex, T.ha, T.hn, T.htk, T.hm, T.hd, no⟩
theorem ownx_mk {prog : Program} {K : PySem.W.Frag} {h : Heap} {mg : Str → Option Value} {C fI cc cda CE : Addr} {nm q : Str} {N : Addr} {bs sub : List Value} {sn : List Str} {ab : Bool} {col : Option Bool} {dd cld ccd : Option Addr} {k0 k1 k2 k3 k5 : Option Value} {cl ccl : Value} {csl ccs : Array (Option Value)} {vA : Array Value} {file : Str} {tf : Tok} (X : K.In h) (G : h.Ns mainGlobals mg)
    (xl : K.lookup C = some (excClassObj nm q C N bs [.ref CE, .type "ValueError", .type "Exception", .type "BaseException", .type "object"] true sn sub ab col dd k0 k1 k2 k3 k5 "ValueError.__new__"))
    (sa : PySem.W.findIn K (.ref C) "__setattr__" = some (some (.builtin "object.__setattr__"))) (iC : PySem.W.findIn K (.ref C) "__init__" = some (some (.ref fI))) (tI : PySem.W.typeIn K (.ref fI) = some (.type "function"))
    (sup : PySem.W.ks_superIn K C C "__init__" = some (some (.builtin "ValueError.__init__"))) (sV : PySem.W.subIn K (.ref C) (.type "ValueError") = some true) (sC : PySem.W.mroIn K C (.ref C) = some true) (opq : PySem.W.nsIn K cStatics "thirdparty.any" = some none) (ms : PySem.W.nsIn K mainGlobals "super" = some none)
    (cell : K.lookup cc = some ⟨cl, cld, .cell (some (.ref C)), csl⟩) (code : K.lookup cda = some ⟨ccl, ccd, .fields vA, ccs⟩) (cf : vA[2]? = some (.str file tf)) (ff : ((prog.main.file : Str) == file) = true) (top : (prog.main.scope.names.lookup ("super" : Str)).isSome = false) : PySem.BX.OwnX prog K mg C fI cc cda :=
  ⟨⟨nm, q, N, bs, _, sn, sub, ab, col, dd, k0, k1, k2, k3, k5, xl, by rfl⟩, sa, iC, tI, sup, sV, sC, opq, PySem.W.mg_none_of X G ms, ⟨cl, cld, csl, cell⟩, ⟨ccl, ccd, vA, ccs, file, tf, code, cf, ff⟩, top⟩
def lookOne (n : Str) (v : V) (u : Value) : Prop := ∀ f, RelO (List.lookup f [(n, v)]) (if f = n then some u else none)
theorem look_one {n : Str} {v : V} {u : Value} (r : RelV v u) (f : Str) : RelO (List.lookup f [(n, v)]) (if f = n then some u else none) := by
  by_cases e : f = n
  · rw [e, if_pos rfl, List.lookup_cons_self]; exact r
  · have h : (f == n) = false := beq_eq_false_iff_ne.mpr e
    rw [if_neg e]
    show RelO (match f == n with | true => some v | false => none) none
    rw [h]; exact True.intro
theorem look_two {n m : Str} {v v2 : V} {u u2 : Value} (r : RelV v u) (r2 : RelV v2 u2) (hn : n ≠ m) (f : Str) : RelO (List.lookup f [(n, v), (m, v2)]) (if f = m then some u2 else if f = n then some u else none) := by
  by_cases e : f = n
  · rw [e, if_neg hn, if_pos rfl, List.lookup_cons_self]; exact r
  · have h : (f == n) = false := beq_eq_false_iff_ne.mpr e
    rw [List.lookup_cons, h]
    by_cases e2 : f = m
    · rw [e2, if_pos rfl]
      show RelO (List.lookup m [(m, v2)]) _
      rw [List.lookup_cons_self]; exact r2
    · have h2 : (f == m) = false := beq_eq_false_iff_ne.mpr e2
      rw [if_neg e2, if_neg e]
      show RelO (match f == m with | true => some v2 | false => none) none
      rw [h2]; exact True.intro
section
variable {prog : Program} {w : World} {K : PySem.W.Frag} {h : Heap} {mg : Str → Option Value} {C fI cc cda : Addr} {oc : Value} {od : Option Addr} {kV doc pm ct : Value} {an : Option Addr} {osl : Array (Option Value)}
theorem err_one4 (X : K.In h) (G : h.Ns mainGlobals mg) (g : PySem.W.nsIn K mainGlobals "BadFour" = some (some (.ref C))) (O : PySem.BX.OwnX prog K mg C fI cc cda) (T : ClE K C)
    (ho : K.lookup fI = some ⟨oc, od, .func (PySem.W.ksFn "__init__" "BadFour.__init__" (L2.defArgs (L2.inClass (top 5) 0)) (L2.defBody (L2.inClass (top 5) 0)) (L2.defScope (L2.inClass (top 5) 0)) .none kV doc pm an (.ref cda) ct cc), osl⟩) (hcd : PySem.W.codeIn K (.ref cda) "BadFour.__init__" = true) (n1 : PySem.W.findIn K (.ref C) "part" = some none) : ErrTxt prog w K mg "BadFour" ["part"] C := by
  refine ⟨PySem.W.mg_of X G g, ⟨fI, cc, cda, O, fun vs us r hl => ?_⟩, T.kp, T.ex, T.ty, by decide⟩
  obtain ⟨v, rfl⟩ : ∃ v, vs = [v] := by match vs, hl with | [v], _ => exact ⟨v, rfl⟩
  obtain ⟨u, rfl, ru⟩ := r.one
  exact ⟨_, fun A R s x t0 X hlim hg hb hx hnx hroom hq => PySem.BX.init_BadFour O ho hcd n1 X hlim hg hb hx hnx hroom hq, look_one ru⟩
theorem err_oneN (X : K.In h) (G : h.Ns mainGlobals mg) (g : PySem.W.nsIn K mainGlobals "BadNumber" = some (some (.ref C))) (O : PySem.BX.OwnX prog K mg C fI cc cda) (T : ClE K C)
    (ho : K.lookup fI = some ⟨oc, od, .func (PySem.W.ksFn "__init__" "BadNumber.__init__" (L2.defArgs (L2.inClass (top 4) 0)) (L2.defBody (L2.inClass (top 4) 0)) (L2.defScope (L2.inClass (top 4) 0)) .none kV doc pm an (.ref cda) ct cc), osl⟩) (hcd : PySem.W.codeIn K (.ref cda) "BadNumber.__init__" = true) (n1 : PySem.W.findIn K (.ref C) "part" = some none) : ErrTxt prog w K mg "BadNumber" ["part"] C := by
  refine ⟨PySem.W.mg_of X G g, ⟨fI, cc, cda, O, fun vs us r hl => ?_⟩, T.kp, T.ex, T.ty, by decide⟩
  obtain ⟨v, rfl⟩ : ∃ v, vs = [v] := by match vs, hl with | [v], _ => exact ⟨v, rfl⟩
  obtain ⟨u, rfl, ru⟩ := r.one
  exact ⟨_, fun A R s x t0 X hlim hg hb hx hnx hroom hq => PySem.BX.init_BadNumber O ho hcd n1 X hlim hg hb hx hnx hroom hq, look_one ru⟩
theorem err_two (X : K.In h) (G : h.Ns mainGlobals mg) (g : PySem.W.nsIn K mainGlobals "TooMany" = some (some (.ref C))) (O : PySem.BX.OwnX prog K mg C fI cc cda) (T : ClE K C)
    (ho : K.lookup fI = some ⟨oc, od, .func (PySem.W.ksFn "__init__" "TooMany.__init__" (L2.defArgs (L2.inClass (top 8) 0)) (L2.defBody (L2.inClass (top 8) 0)) (L2.defScope (L2.inClass (top 8) 0)) .none kV doc pm an (.ref cda) ct cc), osl⟩) (hcd : PySem.W.codeIn K (.ref cda) "TooMany.__init__" = true) (n1 : PySem.W.findIn K (.ref C) "what" = some none) (n2 : PySem.W.findIn K (.ref C) "most" = some none) : ErrTxt prog w K mg "TooMany" ["what", "most"] C := by
  refine ⟨PySem.W.mg_of X G g, ⟨fI, cc, cda, O, fun vs us r hl => ?_⟩, T.kp, T.ex, T.ty, by decide⟩
  obtain ⟨v, v2, rfl⟩ : ∃ v v2, vs = [v, v2] := by match vs, hl with | [v, v2], _ => exact ⟨v, v2, rfl⟩
  obtain ⟨u, u2, rfl, r1, r2⟩ := vals2 r
  exact ⟨_, fun A R s x t0 X hlim hg hb hx hnx hroom hq => PySem.BX.init_TooMany O ho hcd n1 n2 X hlim hg hb hx hnx hroom hq, look_two r1 r2 (by decide +kernel)⟩
theorem df_mk {f T : Addr} {od oT : Option Addr} {cT oc kV doc pm cdv ct : Value} {an : Option Addr} {osl sT : Array (Option Value)} {n : Nat} {tk : Tok} (X : K.In h) (G : h.Ns mainGlobals mg) (a : PySem.W.nsIn K mainGlobals "need_four" = some (some (.ref f)))
    (l : K.lookup f = some ⟨oc, od, .func (PySem.W.fnOf "need_four" "need_four" (defArgs sNeedF) (defBody sNeedF) (defScope sNeedF) (.ref T) kV doc pm an cdv ct), osl⟩) (c : PySem.W.codeIn K cdv "need_four" = true) (k : PySem.W.keepIn K (.ref f) = true)
    (t : K.lookup T = some ⟨cT, oT, .seq #[.str "four" tk] n, sT⟩) : ∃ (f : Addr) (fd : FuncData), mg "need_four" = some (.ref f) ∧ FunDf K "need_four" sNeedF [.str "four"] f fd :=
  ⟨f, _, PySem.W.mg_of X G a, ⟨⟨⟨oc, od, _, kV, doc, pm, an, cdv, ct, osl, rfl, l, c, .inr ⟨by simp, T, _, [.str "four" tk], n, rfl, t, rfl, .cons ⟨tk, rfl⟩ .nil⟩, .inl rfl⟩, k⟩⟩⟩
end
theorem all_mk {l : PySem.W.OpenLaw} {w : World} {K : PySem.W.Frag} {h : Heap} {mg : Str → Option Value} {fa CF fI CE CB CN CT fL cL PL : Addr} {fdI : FuncData} {oc : Value} {od an : Option Addr} {osl : Array (Option Value)} {kV doc pm ct : Value} (X : K.In h) (G : h.Ns mainGlobals mg) (hfa : mg "law" = some (.ref fa))
    (hT : h.get? PL = some { cls := .none, data := .fields #[] }) (nT : K.lookup PL = none) (aL : PySem.W.nsIn K mainGlobals "law" = some (some (.ref fL)))
    (lL : K.lookup fL = some ⟨oc, od, .func (PySem.W.fnOf "law" "law" (defArgs sLaw) (defBody sLaw) (defScope sLaw) .none kV doc pm an (.ref cL) ct), osl⟩) (eL : PySem.W.codeIn K (.ref cL) "law" = true) (hL : PySem.W.codeHdIn K cL PL = true)
    (B : Blt mg) (TF : FourTxt K mg CF) (M : L2.Mk K CF fI) (FI : L2.Fun K "__init__" "Four.__init__" sFour fI fdI)
    (TB : ErrTxt l.prog w K mg "BadFour" ["part"] CB) (TN : ErrTxt l.prog w K mg "BadNumber" ["part"] CN) (TT : ErrTxt l.prog w K mg "TooMany" ["what", "most"] CT) (E : Errs K mg CE CB CN CT)
    (DF : ∃ (f : Addr) (fd : FuncData), mg "need_four" = some (.ref f) ∧ FunDf K "need_four" sNeedF [.str "four"] f fd)
    (Dlet_in : Fd K mg "let_in" sLet)
    (Dexchanged_at : Fd K mg "exchanged_at" sExch)
    (Dlowering : Fd K mg "lowering" sLow)
    (Dturned_at : Fd K mg "turned_at" sTurn)
    (D_law_swapped : Fd K mg "_law_swapped" sSwap)
    (D_law_turned : Fd K mg "_law_turned" sLTurn)
    (D_law_grain : Fd K mg "_law_grain" sGrain)
    (D_law_mill : Fd K mg "_law_mill" sMill)
    (D_law_pick : Fd K mg "_law_pick" sPick)
    (D_law_stirred : Fd K mg "_law_stirred" sStir)
    (D_law_along : Fd K mg "_law_along" sAlong)
    (D_law_divisor : Fd K mg "_law_divisor" sDiv)
    (D_law_down : Fd K mg "_law_down" sLDown)
    (D_law_roots : Fd K mg "_law_roots" sRoots)
    (Dis_integer : Fd K mg "is_integer" sIsInt)
    (Dis_within : Fd K mg "is_within" sWithin)
    (Dneed_number : Fd K mg "need_number" sNeedN)
    (Dmeasure : Fd K mg "measure" sMeas)
    (Dare_integers : Fd K mg "are_integers" sAre)
    (Dneed_bends : Fd K mg "need_bends" sNeedB)
    (Ddown : Fd K mg "down" sDown)
    (Dends_with : Fd K mg "ends_with" sEnds)
    (Dturned_out : Fd K mg "turned_out" sOut)
    (D_law_out : Fd K mg "_law_out" sLOut)
    (D_law_heard : Fd K mg "_law_heard" sHeard)
    (D_law_all_right : Fd K mg "_law_all_right" sAll)
    (D_law_one_right : Fd K mg "_law_one_right" sOne) : EndG l w K 7 "_law_script" mg fa h := by
  have e := hfa.symm.trans (PySem.W.mg_of X G aL)
  cases e
  refine ⟨PySem.W.fnOf "law" "law" (defArgs sLaw) (defBody sLaw) (defScope sLaw) .none kV doc pm an (.ref cL) ct, cL, PL, spLaw K PL, hT, nT, PySem.W.codeHd_of_K X hL, fun s u => .of_eq rfl, fun H a ns hH hS => ⟨a, ns, rfl, hS, hH, fun _ => rfl⟩, fun base hK hG tb => ?_⟩
  have bFI : L2.Binds K fdI ["self", "bends"] [] := FI.binds (ps := ["self", "bends"]) fun _ _ _ _ _ _ us hl => match us, hl with | [_, _], _ => rfl
  have cLet : Cal l.prog w K mg base CX0 1 "let_in" ["bends", "place"] (spLet K) := Dlet_in.cal (fun _ _ _ _ _ _ us hl => match us, hl with | [_, _], _ => rfl) fun f fd F => ok_let F B
  have cExch : Cal l.prog w K mg base CX0 2 "exchanged_at" ["bends", "place"] (spExch K) := Dexchanged_at.cal (fun _ _ _ _ _ _ us hl => match us, hl with | [_, _], _ => rfl) fun f fd F => ok_exch F B cLet
  have cLow : Cal l.prog w K mg base CX0 1 "lowering" ["bends"] (spLow K) := Dlowering.cal (fun _ _ _ _ _ _ us hl => match us, hl with | [_], _ => rfl) fun f fd F => ok_low F B
  have cTurn : Cal l.prog w K mg base CX0 1 "turned_at" ["bends", "place"] (spTurn K) := Dturned_at.cal (fun _ _ _ _ _ _ us hl => match us, hl with | [_, _], _ => rfl) fun f fd F => ok_turn F B
  have cSwap : Cal l.prog w K mg base CX0 1 "_law_swapped" ["_law_bends", "_law_place"] (spSwap K) := D_law_swapped.cal (fun _ _ _ _ _ _ us hl => match us, hl with | [_, _], _ => rfl) fun f fd F => ok_swap F B
  have cLTurn : Cal l.prog w K mg base CX0 1 "_law_turned" ["_law_bends", "_law_place"] (spLTurn K) := D_law_turned.cal (fun _ _ _ _ _ _ us hl => match us, hl with | [_, _], _ => rfl) fun f fd F => ok_lturn F B
  have cGrain : Cal l.prog w K mg base CX0 1 "_law_grain" ["_law_mill_here", "_law_many"] spGrain := D_law_grain.cal (fun _ _ _ _ _ _ us hl => match us, hl with | [_, _], _ => rfl) fun f fd F => ok_grain F B
  have cMill : Cal l.prog w K mg base CX0 1 "_law_mill" ["_law_script"] (spMill K) := D_law_mill.cal (fun _ _ _ _ _ _ us hl => match us, hl with | [_], _ => rfl) fun f fd F => ok_mill F B
  have cPick : Cal l.prog w K mg base CX0 2 "_law_pick" ["_law_mill_here", "_law_some"] (spPick K) := D_law_pick.cal (fun _ _ _ _ _ _ us hl => match us, hl with | [_, _], _ => rfl) fun f fd F => ok_pick F B cGrain
  have cStir : Cal l.prog w K mg base CX0 2 "_law_stirred" ["_law_mill_here", "_law_some"] (spStir K) := D_law_stirred.cal (fun _ _ _ _ _ _ us hl => match us, hl with | [_, _], _ => rfl) fun f fd F => ok_stir F B cGrain
  have cAlong : Cal l.prog w K mg base CX0 2 "_law_along" ["_law_bends", "_law_word"] (spAlong K) := D_law_along.cal (fun _ _ _ _ _ _ us hl => match us, hl with | [_, _], _ => rfl) fun f fd F => ok_along F B cSwap
  have cDiv : Cal l.prog w K mg base CX0 1 "_law_divisor" ["_law_one", "_law_other"] spDiv := D_law_divisor.cal (fun _ _ _ _ _ _ us hl => match us, hl with | [_, _], _ => rfl) fun f fd F => ok_div F B
  have cLDown : Cal l.prog w K mg base CX0 2 "_law_down" ["_law_bends"] (spLDown K) := D_law_down.cal (fun _ _ _ _ _ _ us hl => match us, hl with | [_], _ => rfl) fun f fd F => ok_ldown F B cSwap
  have cRoots : Cal l.prog w K mg base CX0 2 "_law_roots" ["_law_size"] (spRoots K) := D_law_roots.cal (fun _ _ _ _ _ _ us hl => match us, hl with | [_], _ => rfl) fun f fd F => ok_roots F B cDiv
  have cIsInt : Cal l.prog w K mg base CX0 1 "is_integer" ["value"] spIsInt := Dis_integer.cal (fun _ _ _ _ _ _ us hl => match us, hl with | [_], _ => rfl) fun f fd F => ok_isint F B
  have cWithin : Cal l.prog w K mg base CX0 2 "is_within" ["value", "least", "most"] spWithin := Dis_within.cal (fun _ _ _ _ _ _ us hl => match us, hl with | [_, _, _], _ => rfl) fun f fd F => ok_within F B cIsInt
  have cNeedN : Cal l.prog w K mg base (L2.CX l.prog w) 3 "need_number" ["value", "part", "least", "most"] (spNeedN CN) := Dneed_number.cal (fun _ _ _ _ _ _ us hl => match us, hl with | [_, _, _, _], _ => rfl) fun f fd F => ok_needn F B TN cWithin
  have cMeas : Cal l.prog w K mg base CX0 1 "measure" ["values"] (spMeas K) := Dmeasure.cal (fun _ _ _ _ _ _ us hl => match us, hl with | [_], _ => rfl) fun f fd F => ok_meas F B
  have cAre : Cal l.prog w K mg base CX0 2 "are_integers" ["value"] spAre := Dare_integers.cal (fun _ _ _ _ _ _ us hl => match us, hl with | [_], _ => rfl) fun f fd F => ok_are F B cIsInt
  have cNeedB : Cal l.prog w K mg base CX0 3 "need_bends" ["bends"] spNeedB := Dneed_bends.cal (fun _ _ _ _ _ _ us hl => match us, hl with | [_], _ => rfl) fun f fd F => ok_needb F B cAre cMeas
  have cDown : Cal l.prog w K mg base (L2.CX l.prog w) 3 "down" ["bends"] (spDown K CT) := Ddown.cal (fun _ _ _ _ _ _ us hl => match us, hl with | [_], _ => rfl) fun f fd F => ok_down F B TT cLow cExch
  have cEnds : Cal l.prog w K mg base CX0 3 "ends_with" ["bends", "wanted"] (spEnds K) := Dends_with.cal (fun _ _ _ _ _ _ us hl => match us, hl with | [_, _], _ => rfl) fun f fd F => ok_ends F B cExch
  have GF : FnOk l.prog w K mg base CX0 4 fI fdI ["self", "bends"] (spFour CF) := ok_four FI B TF cNeedB
  have cNeedF : CalD l.prog w K mg base (L2.CX l.prog w) 2 "need_four" ["value", "part"] [.str "four"] (spNeedF K CF CB) := by
    obtain ⟨f, fd, m, F⟩ := DF
    obtain ⟨ds, hv, hb⟩ := F.f.binds1 (ps := ["value", "part"]) 1 0 (by simp) rfl (fun T kV doc pm an cdv ct us its h1 h2 => match us, its, h1, h2 with | [_], [_], _, _ => ⟨_, rfl, rfl⟩)
    exact ⟨f, fd, ds, m, F.f.kp, hb, hv, ok_needf F B TF TB⟩
  have cOut : Cal l.prog w K mg base (L2.CX l.prog w) 4 "turned_out" ["four", "bend"] (spOut K CF CB CN CT) := Dturned_out.cal (fun _ _ _ _ _ _ us hl => match us, hl with | [_, _], _ => rfl) fun f fd F => ok_out F B TF cNeedF cNeedN cDown cTurn cEnds
  have cLOut : Cal l.prog w K mg base CX0 3 "_law_out" ["_law_bends", "_law_wanted"] (spLOut K) := D_law_out.cal (fun _ _ _ _ _ _ us hl => match us, hl with | [_, _], _ => rfl) fun f fd F => ok_lout F B cLDown cLTurn cSwap
  have cAll : Cal l.prog w K mg base CX0 6 "_law_all_right" ["_law_mill_here", "_law_size"] spAll := D_law_all_right.cal (fun _ _ _ _ _ _ us hl => match us, hl with | [_, _], _ => rfl) fun f fd F => ok_all F B TF M GF bFI cStir cRoots cOut
  obtain ⟨fOne, fdOne, mOne, FOne⟩ := D_law_one_right
  obtain ⟨fO, fdO, mO, FO⟩ := Dturned_out
  have bO : L2.Binds K fdO ["four", "bend"] [] := FO.binds (ps := ["four", "bend"]) fun _ _ _ _ _ _ us hl => match us, hl with | [_, _], _ => rfl
  have GO : FnOk l.prog w K mg base (L2.CX l.prog w) 4 fO fdO ["four", "bend"] (spOut K CF CB CN CT) := ok_out FO B TF cNeedF cNeedN cDown cTurn cEnds
  have kbO : KBinds K fdO ["four", "bend"] ["bend", "four"] (fun us ws => us ++ (match ws with | [a, b] => [b, a] | l => l)) (fun us ws => us ++ (match ws with | [a, b] => [b, a] | l => l)) := by
    obtain ⟨ocO, odO, kVO, docO, pmO, anO, cdO, ctO, oslO, rfl, lkO, hcO⟩ := FO.ex
    refine ⟨fun s us ws X hl => ?_, fun {vs us zs ws} r1 r2 => ?_⟩
    · match us, ws, hl with
      | [], [a, b], _ => exact .of_eq rfl
      | [a], [b], _ => exact .of_eq rfl
      | [a, b], [], _ => exact .of_eq rfl
      | [], [], hl => exact absurd hl (by simp)
      | [], [a], hl => exact absurd hl (by simp)
      | [], a :: b :: c :: r, hl => exact absurd hl (by simp)
      | [a], [], hl => exact absurd hl (by simp)
      | [a], [b, c], hl => exact absurd hl (by simp)
      | [a], b :: c :: d :: r, hl => exact absurd hl (by simp)
      | [a, b], [c], hl => exact absurd hl (by simp)
      | [a, b], [c, d], hl => exact absurd hl (by simp)
      | [a, b], c :: d :: e :: r, hl => exact absurd hl (by simp)
      | a :: b :: c :: r, w2, hl => exact absurd hl (by rw [List.length_append, List.length_cons, List.length_cons, List.length_cons]; show ¬ _ = 2; omega)
    · refine r1.append ?_
      cases r2 with
      | nil => exact .nil
      | cons a r => cases r with
        | nil => exact .cons a .nil
        | cons b r => cases r with
          | nil => exact .cons b (.cons a .nil)
          | cons c r => exact .cons a (.cons b (.cons c r))
  have bOne : L2.Binds K fdOne ["_law_mill_here"] [] := FOne.binds (ps := ["_law_mill_here"]) fun _ _ _ _ _ _ us hl => match us, hl with | [_], _ => rfl
  have GOne : FnG l.prog w K mg base 6 fOne fdOne ["_law_mill_here"] spOne := ok_one FOne B TF M GF bFI cStir cRoots cPick cGrain cAlong cLOut mO FO.kp bO kbO GO
  obtain ⟨fH, fdH, mH, FH⟩ := D_law_heard
  have bH : L2.Binds K fdH ["_law_ask"] [] := FH.binds (ps := ["_law_ask"]) fun _ _ _ _ _ _ us hl => match us, hl with | [_], _ => rfl
  exact ok_law ⟨oc, od, kV, doc, pm, an, ct, osl, rfl, lL, eL⟩ B TF M GF bFI E tb cMill cGrain cPick cAll mOne FOne.kp bOne GOne cOut mH FH bH
end BS
namespace BS
open PySem PySem.Spec PyProof.Rows L2
theorem four_no {K : PySem.W.Frag} {C : Addr} (i : PySem.W.isClsIn K C = true) (t : PySem.W.typeIn K (.ref C) = some (.type "type")) (a1 : PySem.W.subIn K (.type "int") (.ref C) = some false) (a2 : PySem.W.subIn K (.type "bool") (.ref C) = some false) (a3 : PySem.W.subIn K (.type "NoneType") (.ref C) = some false) (a4 : PySem.W.subIn K (.type "str") (.ref C) = some false) (a5 : PySem.W.subIn K (.type "list") (.ref C) = some false) :
    ∀ nm, nm ∈ ["int", "bool", "NoneType", "str", "list"] → PySem.W.kitOne K (.type nm) (.ref C) = some false := by
  intro nm h
  simp only [List.mem_cons, List.not_mem_nil, or_false] at h
  rcases h with rfl | rfl | rfl | rfl | rfl
  · exact kit_of rfl i t a1
  · exact kit_of rfl i t a2
  · exact kit_of rfl i t a3
  · exact kit_of rfl i t a4
  · exact kit_of rfl i t a5
theorem errs_mk {K : PySem.W.Frag} {h : Heap} {mg : Str → Option Value} {CE CB CN CT : Addr} (X : K.In h) (G : h.Ns mainGlobals mg)
    (gE : PySem.W.nsIn K mainGlobals "BendError" = some (some (.ref CE))) (gB : PySem.W.nsIn K mainGlobals "BadFour" = some (some (.ref CB))) (gN : PySem.W.nsIn K mainGlobals "BadNumber" = some (some (.ref CN))) (gT : PySem.W.nsIn K mainGlobals "TooMany" = some (some (.ref CT)))
    (cE : ClE K CE) (cB : ClE K CB) (cN : ClE K CN) (cT : ClE K CT)
    (eB : PySem.W.subIn K (.ref CB) (.ref CE) = some true) (eN : PySem.W.subIn K (.ref CN) (.ref CE) = some true) (eT : PySem.W.subIn K (.ref CT) (.ref CE) = some true)
    (pB : PySem.W.findIn K (.ref CB) "part" = some none) (pN : PySem.W.findIn K (.ref CN) "part" = some none) (pT : PySem.W.findIn K (.ref CT) "what" = some none) (qT : PySem.W.findIn K (.ref CT) "most" = some none)
    (d1 : (Value.ref CN == Value.ref CB) = false) (d2 : (Value.ref CT == Value.ref CB) = false) (d3 : (Value.ref CT == Value.ref CN) = false) (d4 : (Value.ref CB == Value.ref CT) = false) (d5 : (Value.ref CN == Value.ref CT) = false)
    (nB : PySem.W.subIn K (.ref CN) (.ref CB) = some false) (tB : PySem.W.subIn K (.ref CT) (.ref CB) = some false) (tN : PySem.W.subIn K (.ref CT) (.ref CN) = some false) (bT : PySem.W.subIn K (.ref CB) (.ref CT) = some false) (nT : PySem.W.subIn K (.ref CN) (.ref CT) = some false)
    (oB : PySem.W.subIn K (.type "NoneType") (.ref CB) = some false) (oN : PySem.W.subIn K (.type "NoneType") (.ref CN) = some false) (oT : PySem.W.subIn K (.type "NoneType") (.ref CT) = some false) : Errs K mg CE CB CN CT where
  gE := PySem.W.mg_of X G gE
  gB := PySem.W.mg_of X G gB
  gN := PySem.W.mg_of X G gN
  gT := PySem.W.mg_of X G gT
  eB := exm_of' cE.ex cE.isC cE.ty eB
  eN := exm_of' cE.ex cE.isC cE.ty eN
  eT := exm_of' cE.ex cE.isC cE.ty eT
  xB := cB.txt fun f hf => by rw [List.mem_singleton.mp hf]; exact pB
  xN := cN.txt fun f hf => by rw [List.mem_singleton.mp hf]; exact pN
  xT := cT.txt fun f hf => by
    rcases List.mem_cons.mp hf with rfl | hf
    · exact pT
    · rw [List.mem_singleton.mp hf]; exact qT
  nB := kit_of d1 cB.isC cB.ty nB
  tB := kit_of d2 cB.isC cB.ty tB
  tN := kit_of d3 cN.isC cN.ty tN
  bT := kit_of d4 cT.isC cT.ty bT
  nT := kit_of d5 cT.isC cT.ty nT
  oB := kit_of rfl cB.isC cB.ty oB
  oN := kit_of rfl cN.isC cN.ty oN
  oT := kit_of rfl cT.isC cT.ty oT
theorem int_of {K : PySem.W.Frag} {h : Heap} {mg : Str → Option Value} {n : Str} {i : Int} {t : Tok} (X : K.In h) (G : h.Ns mainGlobals mg) (e : PySem.W.nsIn K mainGlobals n = some (some (.int i t))) : ∃ t, mg n = some (.int i t) := ⟨t, PySem.W.mg_of X G e⟩
theorem fourtxt_mk {K : PySem.W.Frag} {h : Heap} {mg : Str → Option Value} {C : Addr} (X : K.In h) (G : h.Ns mainGlobals mg) (g : PySem.W.nsIn K mainGlobals "Four" = some (some (.ref C))) (pg : PySem.W.plainGet K C Str.empty = true) (hd : PySem.W.hasDictIn K C = true) (po : PySem.W.plainOver K C = true) (sa : PySem.W.findIn K (.ref C) "__setattr__" = some (some (.builtin "object.__setattr__")))
    (nb : PySem.W.findIn K (.ref C) "bends" = some none) (nt : PySem.W.findIn K (.ref C) "total" = some none) (ha : PySem.W.findIn K (.ref C) "__class__" = some (some (.builtin "object.__class__"))) (hn : PySem.W.specialIn K (.builtin "object.__class__") "__get__" = some (some (.builtin "getset_descriptor.__get__"))) (ht : PySem.W.takesIn K (.builtin "object.__class__") = some true) (hm : PySem.W.mroIn K C (.type "object") = some true)
    (i : PySem.W.isClsIn K C = true) (t : PySem.W.typeIn K (.ref C) = some (.type "type")) (a1 : PySem.W.subIn K (.type "int") (.ref C) = some false) (a2 : PySem.W.subIn K (.type "bool") (.ref C) = some false) (a3 : PySem.W.subIn K (.type "NoneType") (.ref C) = some false) (a4 : PySem.W.subIn K (.type "str") (.ref C) = some false) (a5 : PySem.W.subIn K (.type "list") (.ref C) = some false) : FourTxt K mg C :=
  ⟨⟨pg, hd, po, sa⟩, PySem.W.mg_of X G g, nb, nt, ha, hn, ht, hm, four_no i t a1 a2 a3 a4 a5⟩
end BS
open PySem PySem.W PyProof.Rows
set_option maxRecDepth 100000 in
set_option maxHeartbeats 0 in
theorem PySem.Challenge.cw_bendsigns_k26_whole_gaskets_of_a_rim_by_holds : PySem.Challenge.rw_bendsigns_k26_whole_gaskets_of_a_rim_by.Holds := by
  w_on; o_law; k_head; (case hw => w_witness2)
  k_fill
  refine BS.walkG (l := PySem.Challenge.rw_bendsigns_k26_whole_gaskets_of_a_rim_by) (n := 63) (k := 7) (x := "_law_script") rfl (by decide) rfl ⟨rfl, by decide, by decide⟩ (fun w h Y => PySem.W.km_in_of Y) ?zF
  case zF =>
    intro w mg fa h Y KX G hmg
    refine' BS.all_mk (PL := 511) KX G hmg ?z_hT ?z_nT ?z_aL ?z_lL ?z_eL ?z_hL ?z_B ?z_TF ?z_M ?z_FI ?z_TB ?z_TN ?z_TT ?z_E ?z_DF ?z_D0 ?z_D1 ?z_D2 ?z_D3 ?z_D4 ?z_D5 ?z_D6 ?z_D7 ?z_D8 ?z_D9 ?z_D10 ?z_D11 ?z_D12 ?z_D13 ?z_D14 ?z_D15 ?z_D16 ?z_D17 ?z_D18 ?z_D19 ?z_D20 ?z_D21 ?z_D22 ?z_D23 ?z_D24 ?z_D25 ?z_D26
    case z_hT => exact PySem.W.km_tabs_of Y 511 (List.mem_singleton.mpr rfl)
    case z_nT => kernel_rfl
    case z_aL => k_is
    case z_lL => k_is
    case z_eL => k_is
    case z_hL => kernel_rfl
    case z_TF =>
      refine' BS.fourtxt_mk KX G ?z_TF_g ?z_TF_pg ?z_TF_hd ?z_TF_po ?z_TF_sa ?z_TF_nb ?z_TF_nt ?z_TF_ha ?z_TF_hn ?z_TF_ht ?z_TF_hm ?z_TF_i ?z_TF_t ?z_TF_a1 ?z_TF_a2 ?z_TF_a3 ?z_TF_a4 ?z_TF_a5
      case z_TF_g => k_is
      case z_TF_pg => k_is
      case z_TF_hd => k_is
      case z_TF_po => k_is
      case z_TF_sa => k_is
      case z_TF_nb => k_is
      case z_TF_nt => k_is
      case z_TF_ha => k_is
      case z_TF_hn => k_is
      case z_TF_ht => k_is
      case z_TF_hm => k_is
      case z_TF_i => k_is
      case z_TF_t => k_is
      case z_TF_a1 => k_is
      case z_TF_a2 => k_is
      case z_TF_a3 => k_is
      case z_TF_a4 => k_is
      case z_TF_a5 => k_is
    case z_M =>
      refine' ⟨?z_M_mk, ?z_M_ini, ?z_M_fn, ?z_M_kp⟩
      case z_M_ini => k_is
      case z_M_mk => k_is
      case z_M_fn => k_is
      case z_M_kp => k_is
    case z_FI =>
      refine' L2.fun_mk ?z_FI_l ?z_FI_c ?z_FI_k
      case z_FI_l => k_is
      case z_FI_c => k_is
      case z_FI_k => k_is
    case z_E =>
      refine' BS.errs_mk KX G ?z_E_gE ?z_E_gB ?z_E_gN ?z_E_gT ?z_E_cE ?z_E_cB ?z_E_cN ?z_E_cT ?z_E_eB ?z_E_eN ?z_E_eT ?z_E_pB ?z_E_pN ?z_E_pT ?z_E_qT ?z_E_d1 ?z_E_d2 ?z_E_d3 ?z_E_d4 ?z_E_d5 ?z_E_nB ?z_E_tB ?z_E_tN ?z_E_bT ?z_E_nT ?z_E_oB ?z_E_oN ?z_E_oT
      case z_E_gE => k_is
      case z_E_gB => k_is
      case z_E_gN => k_is
      case z_E_gT => k_is
      case z_E_cE => (refine' ⟨?z_E_cE_x0, ?z_E_cE_x1, ?z_E_cE_x2, ?z_E_cE_x3, ?z_E_cE_x4, ?z_E_cE_x5, ?z_E_cE_x6, ?z_E_cE_x7, ?z_E_cE_x8, ?z_E_cE_x9, ?z_E_cE_x10⟩; (case z_E_cE_x0 => k_is); (case z_E_cE_x1 => k_is); (case z_E_cE_x2 => k_is); (case z_E_cE_x3 => k_is); (case z_E_cE_x4 => k_is); (case z_E_cE_x5 => k_is); (case z_E_cE_x6 => k_is); (case z_E_cE_x7 => k_is); (case z_E_cE_x8 => k_is); (case z_E_cE_x9 => k_is); (case z_E_cE_x10 => k_is))
      case z_E_cB => (refine' ⟨?z_E_cB_x0, ?z_E_cB_x1, ?z_E_cB_x2, ?z_E_cB_x3, ?z_E_cB_x4, ?z_E_cB_x5, ?z_E_cB_x6, ?z_E_cB_x7, ?z_E_cB_x8, ?z_E_cB_x9, ?z_E_cB_x10⟩; (case z_E_cB_x0 => k_is); (case z_E_cB_x1 => k_is); (case z_E_cB_x2 => k_is); (case z_E_cB_x3 => k_is); (case z_E_cB_x4 => k_is); (case z_E_cB_x5 => k_is); (case z_E_cB_x6 => k_is); (case z_E_cB_x7 => k_is); (case z_E_cB_x8 => k_is); (case z_E_cB_x9 => k_is); (case z_E_cB_x10 => k_is))
      case z_E_cN => (refine' ⟨?z_E_cN_x0, ?z_E_cN_x1, ?z_E_cN_x2, ?z_E_cN_x3, ?z_E_cN_x4, ?z_E_cN_x5, ?z_E_cN_x6, ?z_E_cN_x7, ?z_E_cN_x8, ?z_E_cN_x9, ?z_E_cN_x10⟩; (case z_E_cN_x0 => k_is); (case z_E_cN_x1 => k_is); (case z_E_cN_x2 => k_is); (case z_E_cN_x3 => k_is); (case z_E_cN_x4 => k_is); (case z_E_cN_x5 => k_is); (case z_E_cN_x6 => k_is); (case z_E_cN_x7 => k_is); (case z_E_cN_x8 => k_is); (case z_E_cN_x9 => k_is); (case z_E_cN_x10 => k_is))
      case z_E_cT => (refine' ⟨?z_E_cT_x0, ?z_E_cT_x1, ?z_E_cT_x2, ?z_E_cT_x3, ?z_E_cT_x4, ?z_E_cT_x5, ?z_E_cT_x6, ?z_E_cT_x7, ?z_E_cT_x8, ?z_E_cT_x9, ?z_E_cT_x10⟩; (case z_E_cT_x0 => k_is); (case z_E_cT_x1 => k_is); (case z_E_cT_x2 => k_is); (case z_E_cT_x3 => k_is); (case z_E_cT_x4 => k_is); (case z_E_cT_x5 => k_is); (case z_E_cT_x6 => k_is); (case z_E_cT_x7 => k_is); (case z_E_cT_x8 => k_is); (case z_E_cT_x9 => k_is); (case z_E_cT_x10 => k_is))
      case z_E_eB => k_is
      case z_E_eN => k_is
      case z_E_eT => k_is
      case z_E_pB => k_is
      case z_E_pN => k_is
      case z_E_pT => k_is
      case z_E_qT => k_is
      case z_E_d1 => exact rfl
      case z_E_d2 => exact rfl
      case z_E_d3 => exact rfl
      case z_E_d4 => exact rfl
      case z_E_d5 => exact rfl
      case z_E_nB => k_is
      case z_E_tB => k_is
      case z_E_tN => k_is
      case z_E_bT => k_is
      case z_E_nT => k_is
      case z_E_oB => k_is
      case z_E_oN => k_is
      case z_E_oT => k_is
    case z_TB =>
      refine' BS.err_one4 KX G ?z_TB_g (BS.ownx_mk KX G ?z_TB_xl ?z_TB_sa ?z_TB_iC ?z_TB_tI ?z_TB_sup ?z_TB_sV ?z_TB_sC ?z_TB_opq ?z_TB_ms ?z_TB_cell ?z_TB_code ?z_TB_cf ?z_TB_ff ?z_TB_top) ?z_TB_T ?z_TB_ho ?z_TB_hcd ?z_TB_n1
      case z_TB_g => k_is
      case z_TB_xl => k_is
      case z_TB_sa => k_is
      case z_TB_iC => k_is
      case z_TB_tI => k_is
      case z_TB_ho => k_is
      case z_TB_hcd => k_is
      case z_TB_sup => kernel_rfl
      case z_TB_sV => k_is
      case z_TB_sC => k_is
      case z_TB_opq => k_is
      case z_TB_ms => k_is
      case z_TB_cell => k_is
      case z_TB_code => k_is
      case z_TB_cf => exact rfl
      case z_TB_ff => kernel_rfl
      case z_TB_top => kernel_rfl
      case z_TB_T => (refine' ⟨?z_TB_T_x0, ?z_TB_T_x1, ?z_TB_T_x2, ?z_TB_T_x3, ?z_TB_T_x4, ?z_TB_T_x5, ?z_TB_T_x6, ?z_TB_T_x7, ?z_TB_T_x8, ?z_TB_T_x9, ?z_TB_T_x10⟩; (case z_TB_T_x0 => k_is); (case z_TB_T_x1 => k_is); (case z_TB_T_x2 => k_is); (case z_TB_T_x3 => k_is); (case z_TB_T_x4 => k_is); (case z_TB_T_x5 => k_is); (case z_TB_T_x6 => k_is); (case z_TB_T_x7 => k_is); (case z_TB_T_x8 => k_is); (case z_TB_T_x9 => k_is); (case z_TB_T_x10 => k_is))
      case z_TB_n1 => k_is
    case z_TN =>
      refine' BS.err_oneN KX G ?z_TN_g (BS.ownx_mk KX G ?z_TN_xl ?z_TN_sa ?z_TN_iC ?z_TN_tI ?z_TN_sup ?z_TN_sV ?z_TN_sC ?z_TN_opq ?z_TN_ms ?z_TN_cell ?z_TN_code ?z_TN_cf ?z_TN_ff ?z_TN_top) ?z_TN_T ?z_TN_ho ?z_TN_hcd ?z_TN_n1
      case z_TN_g => k_is
      case z_TN_xl => k_is
      case z_TN_sa => k_is
      case z_TN_iC => k_is
      case z_TN_tI => k_is
      case z_TN_ho => k_is
      case z_TN_hcd => k_is
      case z_TN_sup => kernel_rfl
      case z_TN_sV => k_is
      case z_TN_sC => k_is
      case z_TN_opq => k_is
      case z_TN_ms => k_is
      case z_TN_cell => k_is
      case z_TN_code => k_is
      case z_TN_cf => exact rfl
      case z_TN_ff => kernel_rfl
      case z_TN_top => kernel_rfl
      case z_TN_T => (refine' ⟨?z_TN_T_x0, ?z_TN_T_x1, ?z_TN_T_x2, ?z_TN_T_x3, ?z_TN_T_x4, ?z_TN_T_x5, ?z_TN_T_x6, ?z_TN_T_x7, ?z_TN_T_x8, ?z_TN_T_x9, ?z_TN_T_x10⟩; (case z_TN_T_x0 => k_is); (case z_TN_T_x1 => k_is); (case z_TN_T_x2 => k_is); (case z_TN_T_x3 => k_is); (case z_TN_T_x4 => k_is); (case z_TN_T_x5 => k_is); (case z_TN_T_x6 => k_is); (case z_TN_T_x7 => k_is); (case z_TN_T_x8 => k_is); (case z_TN_T_x9 => k_is); (case z_TN_T_x10 => k_is))
      case z_TN_n1 => k_is
    case z_TT =>
      refine' BS.err_two KX G ?z_TT_g (BS.ownx_mk KX G ?z_TT_xl ?z_TT_sa ?z_TT_iC ?z_TT_tI ?z_TT_sup ?z_TT_sV ?z_TT_sC ?z_TT_opq ?z_TT_ms ?z_TT_cell ?z_TT_code ?z_TT_cf ?z_TT_ff ?z_TT_top) ?z_TT_T ?z_TT_ho ?z_TT_hcd ?z_TT_n1 ?z_TT_n2
      case z_TT_g => k_is
      case z_TT_xl => k_is
      case z_TT_sa => k_is
      case z_TT_iC => k_is
      case z_TT_tI => k_is
      case z_TT_ho => k_is
      case z_TT_hcd => k_is
      case z_TT_sup => kernel_rfl
      case z_TT_sV => k_is
      case z_TT_sC => k_is
      case z_TT_opq => k_is
      case z_TT_ms => k_is
      case z_TT_cell => k_is
      case z_TT_code => k_is
      case z_TT_cf => exact rfl
      case z_TT_ff => kernel_rfl
      case z_TT_top => kernel_rfl
      case z_TT_T => (refine' ⟨?z_TT_T_x0, ?z_TT_T_x1, ?z_TT_T_x2, ?z_TT_T_x3, ?z_TT_T_x4, ?z_TT_T_x5, ?z_TT_T_x6, ?z_TT_T_x7, ?z_TT_T_x8, ?z_TT_T_x9, ?z_TT_T_x10⟩; (case z_TT_T_x0 => k_is); (case z_TT_T_x1 => k_is); (case z_TT_T_x2 => k_is); (case z_TT_T_x3 => k_is); (case z_TT_T_x4 => k_is); (case z_TT_T_x5 => k_is); (case z_TT_T_x6 => k_is); (case z_TT_T_x7 => k_is); (case z_TT_T_x8 => k_is); (case z_TT_T_x9 => k_is); (case z_TT_T_x10 => k_is))
      case z_TT_n1 => k_is
      case z_TT_n2 => k_is
    case z_DF =>
      refine' BS.df_mk KX G ?z_DF_a ?z_DF_l ?z_DF_c ?z_DF_k ?z_DF_t
      case z_DF_a => k_is
      case z_DF_l => k_is
      case z_DF_c => k_is
      case z_DF_k => k_is
      case z_DF_t => k_is
    case z_B =>
      refine' ⟨PySem.W.mg_none_of KX G ?z_B_b_len, PySem.W.mg_none_of KX G ?z_B_b_sum, PySem.W.mg_none_of KX G ?z_B_b_isinstance, PySem.W.mg_none_of KX G ?z_B_b_int, PySem.W.mg_none_of KX G ?z_B_b_bool, PySem.W.mg_none_of KX G ?z_B_b_list, PySem.W.mg_none_of KX G ?z_B_b_tuple, PySem.W.mg_none_of KX G ?z_B_b_all, PySem.W.mg_none_of KX G ?z_B_b_enumerate, PySem.W.mg_none_of KX G ?z_B_b_range, PySem.W.mg_none_of KX G ?z_B_b_sorted, PySem.W.mg_none_of KX G ?z_B_b_max, PySem.W.mg_none_of KX G ?z_B_b_abs, PySem.W.mg_none_of KX G ?z_B_b_repr, PySem.W.mg_none_of KX G ?z_B_b_dict, PySem.W.mg_of KX G ?z_B_gcd, BS.int_of KX G ?z_B_pl, BS.int_of KX G ?z_B_le, BS.int_of KX G ?z_B_be⟩
      case z_B_b_len => k_is
      case z_B_b_sum => k_is
      case z_B_b_isinstance => k_is
      case z_B_b_int => k_is
      case z_B_b_bool => k_is
      case z_B_b_list => k_is
      case z_B_b_tuple => k_is
      case z_B_b_all => k_is
      case z_B_b_enumerate => k_is
      case z_B_b_range => k_is
      case z_B_b_sorted => k_is
      case z_B_b_max => k_is
      case z_B_b_abs => k_is
      case z_B_b_repr => k_is
      case z_B_b_dict => k_is
      case z_B_gcd => k_is
      case z_B_pl => k_is
      case z_B_le => k_is
      case z_B_be => k_is
    case z_D0 =>
      refine' BS.fd_mk KX G ?z_D0_a ?z_D0_l ?z_D0_c ?z_D0_k
      case z_D0_a => k_is
      case z_D0_l => k_is
      case z_D0_c => k_is
      case z_D0_k => k_is
    case z_D1 =>
      refine' BS.fd_mk KX G ?z_D1_a ?z_D1_l ?z_D1_c ?z_D1_k
      case z_D1_a => k_is
      case z_D1_l => k_is
      case z_D1_c => k_is
      case z_D1_k => k_is
    case z_D2 =>
      refine' BS.fd_mk KX G ?z_D2_a ?z_D2_l ?z_D2_c ?z_D2_k
      case z_D2_a => k_is
      case z_D2_l => k_is
      case z_D2_c => k_is
      case z_D2_k => k_is
    case z_D3 =>
      refine' BS.fd_mk KX G ?z_D3_a ?z_D3_l ?z_D3_c ?z_D3_k
      case z_D3_a => k_is
      case z_D3_l => k_is
      case z_D3_c => k_is
      case z_D3_k => k_is
    case z_D4 =>
      refine' BS.fd_mk KX G ?z_D4_a ?z_D4_l ?z_D4_c ?z_D4_k
      case z_D4_a => k_is
      case z_D4_l => k_is
      case z_D4_c => k_is
      case z_D4_k => k_is
    case z_D5 =>
      refine' BS.fd_mk KX G ?z_D5_a ?z_D5_l ?z_D5_c ?z_D5_k
      case z_D5_a => k_is
      case z_D5_l => k_is
      case z_D5_c => k_is
      case z_D5_k => k_is
    case z_D6 =>
      refine' BS.fd_mk KX G ?z_D6_a ?z_D6_l ?z_D6_c ?z_D6_k
      case z_D6_a => k_is
      case z_D6_l => k_is
      case z_D6_c => k_is
      case z_D6_k => k_is
    case z_D7 =>
      refine' BS.fd_mk KX G ?z_D7_a ?z_D7_l ?z_D7_c ?z_D7_k
      case z_D7_a => k_is
      case z_D7_l => k_is
      case z_D7_c => k_is
      case z_D7_k => k_is
    case z_D8 =>
      refine' BS.fd_mk KX G ?z_D8_a ?z_D8_l ?z_D8_c ?z_D8_k
      case z_D8_a => k_is
      case z_D8_l => k_is
      case z_D8_c => k_is
      case z_D8_k => k_is
    case z_D9 =>
      refine' BS.fd_mk KX G ?z_D9_a ?z_D9_l ?z_D9_c ?z_D9_k
      case z_D9_a => k_is
      case z_D9_l => k_is
      case z_D9_c => k_is
      case z_D9_k => k_is
    case z_D10 =>
      refine' BS.fd_mk KX G ?z_D10_a ?z_D10_l ?z_D10_c ?z_D10_k
      case z_D10_a => k_is
      case z_D10_l => k_is
      case z_D10_c => k_is
      case z_D10_k => k_is
    case z_D11 =>
      refine' BS.fd_mk KX G ?z_D11_a ?z_D11_l ?z_D11_c ?z_D11_k
      case z_D11_a => k_is
      case z_D11_l => k_is
      case z_D11_c => k_is
      case z_D11_k => k_is
    case z_D12 =>
      refine' BS.fd_mk KX G ?z_D12_a ?z_D12_l ?z_D12_c ?z_D12_k
      case z_D12_a => k_is
      case z_D12_l => k_is
      case z_D12_c => k_is
      case z_D12_k => k_is
    case z_D13 =>
      refine' BS.fd_mk KX G ?z_D13_a ?z_D13_l ?z_D13_c ?z_D13_k
      case z_D13_a => k_is
      case z_D13_l => k_is
      case z_D13_c => k_is
      case z_D13_k => k_is
    case z_D14 =>
      refine' BS.fd_mk KX G ?z_D14_a ?z_D14_l ?z_D14_c ?z_D14_k
      case z_D14_a => k_is
      case z_D14_l => k_is
      case z_D14_c => k_is
      case z_D14_k => k_is
    case z_D15 =>
      refine' BS.fd_mk KX G ?z_D15_a ?z_D15_l ?z_D15_c ?z_D15_k
      case z_D15_a => k_is
      case z_D15_l => k_is
      case z_D15_c => k_is
      case z_D15_k => k_is
    case z_D16 =>
      refine' BS.fd_mk KX G ?z_D16_a ?z_D16_l ?z_D16_c ?z_D16_k
      case z_D16_a => k_is
      case z_D16_l => k_is
      case z_D16_c => k_is
      case z_D16_k => k_is
    case z_D17 =>
      refine' BS.fd_mk KX G ?z_D17_a ?z_D17_l ?z_D17_c ?z_D17_k
      case z_D17_a => k_is
      case z_D17_l => k_is
      case z_D17_c => k_is
      case z_D17_k => k_is
    case z_D18 =>
      refine' BS.fd_mk KX G ?z_D18_a ?z_D18_l ?z_D18_c ?z_D18_k
      case z_D18_a => k_is
      case z_D18_l => k_is
      case z_D18_c => k_is
      case z_D18_k => k_is
    case z_D19 =>
      refine' BS.fd_mk KX G ?z_D19_a ?z_D19_l ?z_D19_c ?z_D19_k
      case z_D19_a => k_is
      case z_D19_l => k_is
      case z_D19_c => k_is
      case z_D19_k => k_is
    case z_D20 =>
      refine' BS.fd_mk KX G ?z_D20_a ?z_D20_l ?z_D20_c ?z_D20_k
      case z_D20_a => k_is
      case z_D20_l => k_is
      case z_D20_c => k_is
      case z_D20_k => k_is
    case z_D21 =>
      refine' BS.fd_mk KX G ?z_D21_a ?z_D21_l ?z_D21_c ?z_D21_k
      case z_D21_a => k_is
      case z_D21_l => k_is
      case z_D21_c => k_is
      case z_D21_k => k_is
    case z_D22 =>
      refine' BS.fd_mk KX G ?z_D22_a ?z_D22_l ?z_D22_c ?z_D22_k
      case z_D22_a => k_is
      case z_D22_l => k_is
      case z_D22_c => k_is
      case z_D22_k => k_is
    case z_D23 =>
      refine' BS.fd_mk KX G ?z_D23_a ?z_D23_l ?z_D23_c ?z_D23_k
      case z_D23_a => k_is
      case z_D23_l => k_is
      case z_D23_c => k_is
      case z_D23_k => k_is
    case z_D24 =>
      refine' BS.fd_mk KX G ?z_D24_a ?z_D24_l ?z_D24_c ?z_D24_k
      case z_D24_a => k_is
      case z_D24_l => k_is
      case z_D24_c => k_is
      case z_D24_k => k_is
    case z_D25 =>
      refine' BS.fd_mk KX G ?z_D25_a ?z_D25_l ?z_D25_c ?z_D25_k
      case z_D25_a => k_is
      case z_D25_l => k_is
      case z_D25_c => k_is
      case z_D25_k => k_is
    case z_D26 =>
      refine' BS.fd_mk KX G ?z_D26_a ?z_D26_l ?z_D26_c ?z_D26_k
      case z_D26_a => k_is
      case z_D26_l => k_is
      case z_D26_c => k_is
      case z_D26_k => k_is
