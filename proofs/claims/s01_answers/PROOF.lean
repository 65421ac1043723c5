import PyProof.Rows.All
import Wide.All
import OpenK.AllK
import Wide.FinOn
import Open.SpecLaws
import KE.OsGo
import HandS.ForSpec
import HandS.Iter
import HandS.Evl
import PySem.Challenge.RW_seatwave_s01_answers
set_option Elab.async false
set_option linter.all false
set_option maxRecDepth 100000
set_option maxHeartbeats 2000000
/-! The mathematics of the ring alone: after some steps every ring comes again. -/
namespace Sw
open Kv439

/-! ### a line that is stepped -/
/-- the rule of one section -/
def rule (b s a : Nat) : Nat := if s = 1 then 2 else if s = 2 then 0 else if a = 1 ∨ b = 1 then 1 else 0

/-- a line of states that steps by the rule, whose states stay below three -/
structure Line (X : Nat → Int → Nat) : Prop where
  step : ∀ t i, X (t + 1) i = rule (X t (i - 1)) (X t i) (X t (i + 1))
  low : ∀ t i, X t i ≤ 2

theorem rule_one {b s a : Nat} (hs : s ≤ 2) : rule b s a = 1 ↔ s = 0 ∧ (a = 1 ∨ b = 1) := by
  unfold rule
  constructor
  · intro h
    split at h
    · omega
    · split at h
      · omega
      · split at h
        · refine ⟨by omega, by assumption⟩
        · omega
  · rintro ⟨rfl, h⟩
    simp [h]
theorem rule_two {b s a : Nat} : rule b s a = 2 ↔ s = 1 := by
  unfold rule
  constructor
  · intro h
    split at h
    · assumption
    · split at h
      · omega
      · split at h <;> omega
  · intro h
    simp [h]
theorem rule_zero {b s a : Nat} (hs : s ≤ 2) : rule b s a = 0 ↔ s = 2 ∨ (s = 0 ∧ a ≠ 1 ∧ b ≠ 1) := by
  unfold rule
  constructor
  · intro h
    split at h
    · omega
    · split at h
      · left; assumption
      · split at h
        · omega
        · right
          refine ⟨by omega, by omega, by omega⟩
  · rintro (rfl | ⟨rfl, h1, h2⟩)
    · simp
    · simp [h1, h2]

section
variable {X : Nat → Int → Nat}
/-- a front that goes to the right: standing, ahead of it seated -/
def Rf (X : Nat → Int → Nat) (t : Nat) (p : Int) : Prop := X t p = 1 ∧ X t (p + 1) = 0
/-- a front that goes to the left -/
def Lf (X : Nat → Int → Nat) (t : Nat) (q : Int) : Prop := X t q = 0 ∧ X t (q + 1) = 1

theorem Rf.back (h : Line X) {t : Nat} {p : Int} (r : Rf X (t + 1) p) : Rf X t (p - 1) := by
  obtain ⟨r1, r2⟩ := r
  rw [h.step, rule_one (h.low _ _)] at r1
  rw [h.step, rule_zero (h.low _ _)] at r2
  obtain ⟨a, b⟩ := r1
  have e : p + 1 - 1 = p := by omega
  rw [e] at r2
  refine ⟨?_, by rw [Int.sub_add_cancel]; exact a⟩
  rcases b with b | b
  · rcases r2 with r2 | ⟨r2, _, _⟩ <;> omega
  · exact b
theorem Lf.back (h : Line X) {t : Nat} {q : Int} (r : Lf X (t + 1) q) : Lf X t (q + 1) := by
  obtain ⟨r1, r2⟩ := r
  rw [h.step, rule_one (h.low _ _)] at r2
  rw [h.step, rule_zero (h.low _ _)] at r1
  obtain ⟨a, b⟩ := r2
  have e : q + 1 - 1 = q := by omega
  rw [e] at b
  refine ⟨a, ?_⟩
  rcases b with b | b
  · exact b
  · rcases r1 with r1 | ⟨r1, _, _⟩ <;> omega
theorem Rf.backs (h : Line X) {t : Nat} : ∀ (k : Nat) {p : Int}, Rf X (t + k) p → Rf X t (p - k)
  | 0, p, r => by simpa using r
  | k + 1, p, r => by
    have r1 := Rf.back h (t := t + k) r
    have r2 := Rf.backs h k r1
    have e : p - 1 - (k : Int) = p - ((k + 1 : Nat) : Int) := by omega
    rw [← e]
    exact r2
theorem Lf.backs (h : Line X) {t : Nat} : ∀ (k : Nat) {q : Int}, Lf X (t + k) q → Lf X t (q + k)
  | 0, q, r => by simpa using r
  | k + 1, q, r => by
    have r1 := Lf.back h (t := t + k) r
    have r2 := Lf.backs h k r1
    have e : q + 1 + (k : Int) = q + ((k + 1 : Nat) : Int) := by omega
    rw [← e]
    exact r2
/-- no section stands alone between seated ones, but at the start -/
theorem alone (h : Line X) {t : Nat} {p : Int} (a : X (t + 1) (p - 1) = 0) (b : X (t + 1) p = 1) (c : X (t + 1) (p + 1) = 0) : False := by
  rw [h.step, rule_one (h.low _ _)] at b
  rw [h.step, rule_zero (h.low _ _)] at a c
  have e1 : p - 1 + 1 = p := by omega
  have e2 : p + 1 - 1 = p := by omega
  rw [e1] at a
  rw [e2] at c
  obtain ⟨b1, b2⟩ := b
  rcases b2 with b2 | b2
  · rcases c with c | ⟨c, _, _⟩ <;> omega
  · rcases a with a | ⟨a, _, _⟩ <;> omega
/-- a front to the right and one to the left have met before -/
theorem met (h : Line X) {t m : Nat} {p : Int} (r : Rf X (t + 1 + m) p) (l : Lf X (t + 1 + m) (p - 2 * m)) : False := by
  have r1 := Rf.backs h m r
  have l1 := Lf.backs h m l
  have e : p - 2 * (m : Int) + m = p - m := by omega
  rw [e] at l1
  have := r1.1
  have := l1.1
  omega
theorem met_odd (h : Line X) {t m : Nat} {p : Int} (r : Rf X (t + 1 + m) p) (l : Lf X (t + 1 + m) (p - 2 * m - 1)) : False := by
  have r1 := Rf.backs h m r
  have l1 := Lf.backs h m l
  have e : p - 2 * (m : Int) - 1 + m = p - m - 1 := by omega
  rw [e] at l1
  exact alone h (p := p - m) l1.1 r1.1 r1.2
/-- a line that comes again after n sections -/
def Round (n : Nat) (X : Nat → Int → Nat) : Prop := ∀ t i, X t (i + n) = X t i
theorem Round.many {n : Nat} (hn : Round n X) (t : Nat) (i : Int) : ∀ k : Nat, X t (i + n * k) = X t i
  | 0 => by simp
  | k + 1 => by
    have e : i + (n : Int) * ((k + 1 : Nat) : Int) = (i + n * k) + n := by
      rw [Int.natCast_add, Int.mul_add]
      omega
    rw [e, hn, Round.many hn t i k]
theorem Round.any {n : Nat} (hn : Round n X) (t : Nat) (i k : Int) : X t (i + n * k) = X t i := by
  rcases Int.eq_nat_or_neg k with ⟨m, e | e⟩
  · rw [e]
    exact hn.many t i m
  · have q := hn.many t (i + n * k) m
    rw [e] at q ⊢
    have e2 : i + (n : Int) * -(m : Int) + n * m = i := by
      rw [Int.mul_neg]
      omega
    rw [e2] at q
    exact q.symm
/-- from step n on not both kinds of front are there -/
theorem one_kind {n : Nat} (h : Line X) (hn : Round n X) (h2 : 2 ≤ n) {p q : Int} (r : Rf X n p) (l : Lf X n q) : False := by
  -- q is brought to at most p, by less than n
  let d : Int := (p - q) % n
  have hpos : (0 : Int) < n := by omega
  have d0 : 0 ≤ d := Int.emod_nonneg _ (by omega)
  have d1 : d < n := Int.emod_lt_of_pos _ hpos
  have e : q + n * ((p - q) / n) = p - d := by
    have z := Int.mul_ediv_add_emod (p - q) n
    show q + n * ((p - q) / n) = p - (p - q) % n
    omega
  have l' : Lf X n (p - d) := by
    refine ⟨?_, ?_⟩
    · rw [← e, hn.any]
      exact l.1
    · have e2 : p - d + 1 = (q + 1) + n * ((p - q) / n) := by omega
      rw [e2, hn.any]
      exact l.2
  obtain ⟨m, hm | hm⟩ : ∃ m : Nat, d = 2 * m ∨ d = 2 * m + 1 := ⟨(d / 2).toNat, by omega⟩
  · have en : n = (n - 1 - m) + 1 + m := by omega
    rw [hm] at l'
    rw [en] at r l'
    exact met h r l'
  · have en : n = (n - 1 - m) + 1 + m := by omega
    rw [hm] at l'
    have e3 : p - (2 * (m : Int) + 1) = p - 2 * m - 1 := by omega
    rw [e3] at l'
    rw [en] at r l'
    exact met_odd h r l'
/-! ### one kind of front alone: the line goes to the right -/
def NoL (X : Nat → Int → Nat) (t : Nat) : Prop := ∀ q, ¬ Lf X t q
theorem NoL.next (h : Line X) {t : Nat} (z : NoL X t) : NoL X (t + 1) := fun q l => z _ (Lf.back h l)
theorem NoL.nexts (h : Line X) {t : Nat} (z : NoL X t) : ∀ k, NoL X (t + k)
  | 0 => z
  | k + 1 => (NoL.nexts h z k).next h
theorem Rf.go (h : Line X) {t : Nat} (z : NoL X t) {p : Int} (r : Rf X t p) : Rf X (t + 1) (p + 1) := by
  obtain ⟨r1, r2⟩ := r
  have e1 : p + 1 - 1 = p := by omega
  have e2 : p + 1 + 1 - 1 = p + 1 := by omega
  refine ⟨?_, ?_⟩
  · rw [h.step, rule_one (h.low _ _), e1]
    exact ⟨r2, .inr r1⟩
  · rw [h.step, rule_zero (h.low _ _), e2]
    have q1 : X t (p + 1 + 1) ≠ 1 := fun y => z (p + 1) ⟨r2, y⟩
    have lo := h.low t (p + 1 + 1)
    by_cases y : X t (p + 1 + 1) = 2
    · exact .inl y
    · have y0 : X t (p + 1 + 1) = 0 := by omega
      exact .inr ⟨y0, fun y1 => z _ ⟨y0, y1⟩, by omega⟩
theorem Rf.iff_go (h : Line X) {t : Nat} (z : NoL X t) (p : Int) : Rf X (t + 1) (p + 1) ↔ Rf X t p := by
  refine ⟨fun r => ?_, fun r => r.go h z⟩
  have q := r.back h
  rwa [Int.add_sub_cancel] at q
theorem Rf.iff_goes (h : Line X) {t : Nat} (z : NoL X t) (p : Int) : ∀ k : Nat, Rf X (t + k) (p + k) ↔ Rf X t p
  | 0 => by simp
  | k + 1 => by
    have q := Rf.iff_go h (z.nexts h k) (p + k)
    rw [Rf.iff_goes h z p k] at q
    have e : p + (k : Int) + 1 = p + ((k + 1 : Nat) : Int) := by omega
    rw [e] at q
    exact q
theorem one_iff (h : Line X) {t : Nat} (z : NoL X t) (i : Int) : X (t + 1) i = 1 ↔ Rf X t (i - 1) := by
  rw [h.step, rule_one (h.low _ _)]
  have e : i - 1 + 1 = i := by omega
  constructor
  · rintro ⟨a, b | b⟩
    · exact (z i ⟨a, b⟩).elim
    · exact ⟨b, by rw [e]; exact a⟩
  · rintro ⟨a, b⟩
    rw [e] at b
    exact ⟨b, .inr a⟩
theorem two_iff (h : Line X) (t : Nat) (i : Int) : X (t + 1) i = 2 ↔ X t i = 1 := by
  rw [h.step, rule_two]
theorem Rf.round {n : Nat} (hn : Round n X) {t : Nat} (p : Int) : Rf X t (p + n) ↔ Rf X t p := by
  unfold Rf
  have e : p + (n : Int) + 1 = p + 1 + n := by omega
  rw [e, hn, hn]
theorem again_R {n : Nat} (h : Line X) (hn : Round n X) {t : Nat} (z : NoL X t) (i : Int) : X (t + 2 + n) i = X (t + 2) i := by
  have one : ∀ (s : Nat) (i : Int), NoL X s → (X (s + 1 + n) i = 1 ↔ X (s + 1) i = 1) := fun s i zs => by
    have e : s + 1 + n = (s + n) + 1 := by omega
    rw [e, one_iff h (zs.nexts h n), one_iff h zs, ← Rf.iff_goes h zs (i - 1) n, Rf.round hn]
  have a := one (t + 1) i (z.next h)
  have b := one t i z
  have c1 := two_iff h (t + 1 + n) i
  have c2 := two_iff h (t + 1) i
  have e1 : t + 1 + 1 + n = t + 2 + n := by omega
  have e2 : t + 1 + n + 1 = t + 2 + n := by omega
  have e3 : t + 1 + 1 = t + 2 := by omega
  rw [e1, e3] at a
  rw [e2] at c1
  rw [e3] at c2
  have l1 := h.low (t + 2 + n) i
  have l2 := h.low (t + 2) i
  omega
/-! ### the line seen from the other side -/
def flip (X : Nat → Int → Nat) : Nat → Int → Nat := fun t i => X t (-i)
theorem Line.flip (h : Line X) : Line (flip X) where
  step := fun t i => by
    show X (t + 1) (-i) = rule (X t (-(i - 1))) (X t (-i)) (X t (-(i + 1)))
    rw [h.step]
    have e1 : -(i - 1) = -i + 1 := by omega
    have e2 : -(i + 1) = -i - 1 := by omega
    rw [e1, e2]
    unfold rule
    simp only [or_comm]
  low := fun t i => h.low t (-i)
theorem Round.flip {n : Nat} (hn : Round n X) : Round n (flip X) := fun t i => by
  show X t (-(i + n)) = X t (-i)
  rw [← hn t (-(i + n))]
  have e : -(i + (n : Int)) + n = -i := by omega
  rw [e]
theorem flip_L {t : Nat} {q : Int} (l : Lf (flip X) t q) : Rf X t (-q - 1) := by
  obtain ⟨a, b⟩ := l
  have e : -(q + 1) = -q - 1 := by omega
  refine ⟨?_, ?_⟩
  · rw [← e]
    exact b
  · rw [Int.sub_add_cancel]
    exact a
/-- from step n + 2 on the line comes again after n steps -/
theorem again {n : Nat} (h : Line X) (hn : Round n X) (h2 : 2 ≤ n) (i : Int) : X (n + 2 + n) i = X (n + 2) i := by
  by_cases z : ∃ q, Lf X n q
  · obtain ⟨q, l⟩ := z
    have z2 : NoL (flip X) n := fun q' l' => one_kind h hn h2 (flip_L l') l
    have e := again_R h.flip hn.flip z2 (-i)
    show X (n + 2 + n) i = X (n + 2) i
    have e1 : - -i = i := by omega
    have e' : X (n + 2 + n) (- -i) = X (n + 2) (- -i) := e
    rw [e1] at e'
    exact e'
  · exact again_R h hn (fun q l => z ⟨q, l⟩) i
end
end Sw
/-! Rings of the specification: lengths, steps, and that a ring comes again within sixty steps. -/
namespace Sw
open Kv439

theorem stateAt_lt {r : Ring} {i : Nat} (h : i < r.length) : stateAt r i = r[i] := by
  unfold stateAt
  rw [Nat.mod_eq_of_lt h, List.getD_eq_getElem?_getD, List.getElem?_eq_getElem h, Option.getD_some]
theorem stateAt_mod (r : Ring) (i : Nat) : stateAt r (i % r.length) = stateAt r i := by
  unfold stateAt
  rw [Nat.mod_mod]
theorem nextRing_length (r : Ring) : (nextRing r).length = r.length := by
  unfold nextRing
  rw [List.length_map, List.length_range]
theorem ringAfter_length : ∀ (k : Nat) (r : Ring), (ringAfter r k).length = r.length
  | 0, _ => rfl
  | k + 1, r => by
    show (ringAfter (nextRing r) k).length = r.length
    rw [ringAfter_length k, nextRing_length]
theorem ringAfter_succ : ∀ (k : Nat) (r : Ring), ringAfter r (k + 1) = nextRing (ringAfter r k)
  | 0, _ => rfl
  | k + 1, r => by
    show ringAfter (nextRing r) (k + 1) = nextRing (ringAfter (nextRing r) k)
    exact ringAfter_succ k (nextRing r)
theorem nextRing_at {r : Ring} {i : Nat} (h : i < r.length) : stateAt (nextRing r) i = rule (previousState r i) (stateAt r i) (stateAt r (i + 1)) := by
  rw [stateAt_lt (by rw [nextRing_length]; exact h)]
  unfold nextRing
  rw [List.getElem_map, List.getElem_range]
  rfl
theorem rule_low (b s a : Nat) : rule b s a ≤ 2 := by
  unfold rule
  split
  · omega
  · split
    · omega
    · split <;> omega

/-! ### a ring as a line -/
def lineOf (r : Ring) : Nat → Int → Nat := fun t i => stateAt (ringAfter r t) (i % (r.length : Int)).toNat
theorem toNat_lt {n : Nat} (h : 0 < n) (i : Int) : (i % (n : Int)).toNat < n := by
  have a := Int.emod_nonneg i (b := (n : Int)) (by omega)
  have b := Int.emod_lt_of_pos i (b := (n : Int)) (by omega)
  omega
theorem mod_after {n : Nat} (h : 0 < n) (i : Int) : ((i % (n : Int)).toNat + 1) % n = ((i + 1) % (n : Int)).toNat := by
  have a := Int.emod_nonneg i (b := (n : Int)) (by omega)
  have e : (((i % (n : Int)).toNat + 1) % n : Nat) = (((i % (n : Int)) + 1) % (n : Int)).toNat := by
    have e1 : (i % (n : Int)) + 1 = (((i % (n : Int)).toNat + 1 : Nat) : Int) := by omega
    rw [e1, ← Int.natCast_emod, Int.toNat_natCast]
  rw [e, Int.emod_add_emod]
theorem mod_before {n : Nat} (h : 0 < n) (i : Int) : ((i % (n : Int)).toNat + n - 1) % n = ((i - 1) % (n : Int)).toNat := by
  have a := Int.emod_nonneg i (b := (n : Int)) (by omega)
  have e : (((i % (n : Int)).toNat + n - 1) % n : Nat) = (((i % (n : Int)) + ((n : Int) - 1)) % (n : Int)).toNat := by
    have e1 : (i % (n : Int)) + ((n : Int) - 1) = (((i % (n : Int)).toNat + n - 1 : Nat) : Int) := by omega
    rw [e1, ← Int.natCast_emod, Int.toNat_natCast]
  rw [e, Int.emod_add_emod]
  have e2 : i + ((n : Int) - 1) = (i - 1) + n := by omega
  rw [e2, Int.add_emod_right]
theorem line_step {r : Ring} (hn : 0 < r.length) (t : Nat) (i : Int) : lineOf r (t + 1) i = rule (lineOf r t (i - 1)) (lineOf r t i) (lineOf r t (i + 1)) := by
  have hl := ringAfter_length t r
  unfold lineOf
  rw [ringAfter_succ, nextRing_at (by rw [hl]; exact toNat_lt hn i)]
  congr 1
  · unfold previousState
    rw [← stateAt_mod, hl, mod_before hn]
  · rw [← stateAt_mod, hl, mod_after hn]
theorem line_round (r : Ring) : Round r.length (lineOf r) := fun t i => by
  unfold lineOf
  rw [Int.add_emod_right]
theorem line_low {r : Ring} (h : ∀ i, i < r.length → stateAt r i ≤ 2) (hn : 0 < r.length) : Line (lineOf r) where
  step := line_step hn
  low := fun t i => by
    cases t with
    | zero => exact h _ (toNat_lt hn i)
    | succ t =>
      rw [line_step hn]
      exact rule_low _ _ _
/-- behind one step a ring of n sections comes again from step n + 2 on -/
theorem ring_again {r : Ring} (hn : 2 ≤ r.length) : ringAfter r (r.length + 3 + r.length) = ringAfter r (r.length + 3) := by
  have hl := nextRing_length r
  have e1 : ringAfter r (r.length + 3 + r.length) = ringAfter (nextRing r) ((nextRing r).length + 2 + (nextRing r).length) := by
    have e : r.length + 3 + r.length = (r.length + 2 + r.length) + 1 := by omega
    rw [e, hl]
    rfl
  have e2 : ringAfter r (r.length + 3) = ringAfter (nextRing r) ((nextRing r).length + 2) := by
    rw [hl]
    rfl
  rw [e1, e2]
  have L := line_low (r := nextRing r) (fun i h => by rw [nextRing_at (by rw [← hl]; exact h)]; exact rule_low _ _ _) (by omega)
  refine List.ext_getElem (by rw [ringAfter_length, ringAfter_length]) fun i h1 h2 => ?_
  have q := again L (line_round _) (by omega) (i : Int)
  unfold lineOf at q
  rw [ringAfter_length] at h1
  have e3 : ((i : Int) % ((nextRing r).length : Int)).toNat = i := by
    rw [← Int.natCast_emod, Int.toNat_natCast, Nat.mod_eq_of_lt h1]
  rw [e3, stateAt_lt (by rw [ringAfter_length]; exact h1), stateAt_lt (by rw [ringAfter_length]; exact h1)] at q
  exact q

/-! ### the trajectory -/
theorem trajectory_length : ∀ (k : Nat) (r : Ring), (trajectory r k).length = k + 1
  | 0, _ => rfl
  | k + 1, r => by
    show (trajectory (nextRing r) k).length + 1 = k + 1 + 1
    rw [trajectory_length k]
theorem trajectory_get : ∀ (k : Nat) (r : Ring) (i : Nat), i ≤ k → (trajectory r k)[i]? = some (ringAfter r i)
  | 0, r, i, h => by
    have e : i = 0 := by omega
    subst e
    rfl
  | k + 1, r, 0, _ => rfl
  | k + 1, r, i + 1, h => by
    show (trajectory (nextRing r) k)[i]? = some (ringAfter (nextRing r) i)
    exact trajectory_get k (nextRing r) i (by omega)
theorem trajectory_eq (k : Nat) (r : Ring) : trajectory r k = (List.range (k + 1)).map (ringAfter r) := by
  refine List.ext_getElem? fun i => ?_
  by_cases h : i ≤ k
  · rw [trajectory_get k r i h, List.getElem?_map, List.getElem?_range (by omega)]
    rfl
  · rw [List.getElem?_eq_none (by rw [trajectory_length]; omega), List.getElem?_eq_none (by rw [List.length_map, List.length_range]; omega)]

/-! ### the cycle -/
/-- the first place of a ring in a list -/
def firstPlace (rings : List Ring) (x : Ring) : Nat := rings.findIdx (fun y => y == x)
/-- the least index of a ring that was in the list before, else the last index -/
def firstRepeat (rings : List Ring) : Nat := ((List.range rings.length).find? fun k => decide (firstPlace rings (rings.getD k []) < k)).getD (rings.length - 1)
def cycleOf (r : Ring) : Nat × Nat :=
  let rings := trajectory r maxSteps
  let again := firstRepeat rings
  let start := firstPlace rings (rings.getD again [])
  (start, again - start)

theorem find_place (rings : List Ring) (x : Ring) {k : Nat} (h : k ≤ rings.length) :
    ((List.range k).find? fun i => rings.getD i [] == x) = if firstPlace rings x < k then some (firstPlace rings x) else none := by
  by_cases c : firstPlace rings x < k
  · rw [if_pos c, List.find?_range_eq_some]
    have hl : firstPlace rings x < rings.length := by omega
    refine ⟨?_, List.mem_range.mpr c, fun j hj => ?_⟩
    · have q := List.findIdx_getElem (w := hl) (p := fun y => y == x) (xs := rings)
      rw [List.getD_eq_getElem?_getD, List.getElem?_eq_getElem hl, Option.getD_some]
      exact q
    · have q := List.not_of_lt_findIdx (p := fun y => y == x) (xs := rings) (i := j) hj
      have hj2 : j < rings.length := by omega
      rw [List.getD_eq_getElem?_getD, List.getElem?_eq_getElem hj2, Option.getD_some]
      simpa using q
  · rw [if_neg c, List.find?_range_eq_none]
    intro i hi
    have q := List.not_of_lt_findIdx (p := fun y => y == x) (xs := rings) (i := i) (Nat.lt_of_lt_of_le hi (Nat.le_of_not_lt c))
    have hi2 : i < rings.length := by omega
    rw [List.getD_eq_getElem?_getD, List.getElem?_eq_getElem hi2, Option.getD_some]
    simpa using q
theorem findSome_find {α : Type} (p : Nat → Bool) (g : Nat → α) : ∀ l : List Nat, (l.findSome? fun k => if p k = true then some (g k) else none) = (l.find? p).map g
  | [] => rfl
  | a :: l => by
    rw [List.findSome?_cons, List.find?_cons]
    cases h : p a with
    | true => simp
    | false =>
      simp only [Bool.false_eq_true, if_false]
      exact findSome_find p g l
theorem findSome_congr {α : Type} {f g : Nat → Option α} : ∀ {l : List Nat}, (∀ k ∈ l, f k = g k) → l.findSome? f = l.findSome? g
  | [], _ => rfl
  | a :: l, h => by
    rw [List.findSome?_cons, List.findSome?_cons, h a (List.mem_cons_self ..), findSome_congr fun k hk => h k (List.mem_cons_of_mem _ hk)]
/-- a repeat is there -/
theorem has_repeat {r : Ring} (h3 : 3 ≤ r.length) (h12 : r.length ≤ 12) : ∃ k, ((List.range (trajectory r maxSteps).length).find? fun k => decide (firstPlace (trajectory r maxSteps) ((trajectory r maxSteps).getD k []) < k)) = some k := by
  have hne : ((List.range (trajectory r maxSteps).length).find? fun k => decide (firstPlace (trajectory r maxSteps) ((trajectory r maxSteps).getD k []) < k)) ≠ none := by
    intro z
    rw [List.find?_range_eq_none] at z
    have q := z (r.length + 3 + r.length) (by rw [trajectory_length, maxSteps]; omega)
    have g1 := trajectory_get maxSteps r (r.length + 3 + r.length) (by rw [maxSteps]; omega)
    have g2 := trajectory_get maxSteps r (r.length + 3) (by rw [maxSteps]; omega)
    rw [List.getD_eq_getElem?_getD, g1, Option.getD_some, ring_again (by omega)] at q
    have hb : firstPlace (trajectory r maxSteps) (ringAfter r (r.length + 3)) ≤ r.length + 3 := by
      unfold firstPlace
      obtain ⟨hl, ge⟩ := List.getElem?_eq_some_iff.mp g2
      refine Nat.le_of_not_lt fun c => ?_
      have w := List.not_of_lt_findIdx c
      rw [ge] at w
      simp at w
    have c : firstPlace (trajectory r maxSteps) (ringAfter r (r.length + 3)) < r.length + 3 + r.length := by omega
    rw [decide_eq_true c] at q
    cases q
  cases e : ((List.range (trajectory r maxSteps).length).find? fun k => decide (firstPlace (trajectory r maxSteps) ((trajectory r maxSteps).getD k []) < k)) with
  | none => exact (hne e).elim
  | some k => exact ⟨k, rfl⟩
theorem cycle_is {r : Ring} (h3 : 3 ≤ r.length) (h12 : r.length ≤ 12) : cycle r = cycleOf r := by
  obtain ⟨k, hk⟩ := has_repeat h3 h12
  have e : ((List.range (trajectory r maxSteps).length).findSome? fun k => ((List.range k).find? fun i => (trajectory r maxSteps).getD i [] == (trajectory r maxSteps).getD k []).map fun i => (i, k - i))
      = some (firstPlace (trajectory r maxSteps) ((trajectory r maxSteps).getD k []), k - firstPlace (trajectory r maxSteps) ((trajectory r maxSteps).getD k [])) := by
    rw [findSome_congr (g := fun k => if decide (firstPlace (trajectory r maxSteps) ((trajectory r maxSteps).getD k []) < k) = true then some (firstPlace (trajectory r maxSteps) ((trajectory r maxSteps).getD k []), k - firstPlace (trajectory r maxSteps) ((trajectory r maxSteps).getD k [])) else none)]
    · rw [findSome_find, hk]
      rfl
    · intro j hj
      rw [find_place _ _ (Nat.le_of_lt (List.mem_range.mp hj))]
      by_cases c : firstPlace (trajectory r maxSteps) ((trajectory r maxSteps).getD j []) < j
      · rw [if_pos c, decide_eq_true c, if_pos rfl]
        rfl
      · rw [if_neg c, decide_eq_false c, if_neg Bool.false_ne_true]
        rfl
  unfold cycle cycleOf firstRepeat
  simp only [e, hk, Option.getD_some]
end Sw
/-! Calls as numbers: the flat list read into operations; what is due, operation by operation; the sizes of the answers. -/
namespace Sw
open Kv439 Kv439Neutral

/-- how many numbers follow each operation's number (2 has a list) -/
def sizes : List Nat := [1, 2, 0, 1, 2, 0, 1, 1, 0, 0, 0, 1, 1, 0, 0, 0, 0, 0, 0, 0, 1, 1, 0]
def opOf (op : Nat) (ns : List Nat) : Operation := match op with
  | 0 => .create (ns.getD 0 0)
  | 1 => .setSection (ns.getD 0 0) (ns.getD 1 0)
  | 2 => .setAll ns
  | 3 => .standUp (ns.getD 0 0)
  | 4 => .startWave (ns.getD 0 0) (ns.getD 1 0)
  | 5 => .step
  | 6 => .advance (ns.getD 0 0)
  | 7 => .rotate (ns.getD 0 0)
  | 8 => .mirror
  | 9 => .sitDown
  | 10 => .getRing
  | 11 => .getSection (ns.getD 0 0)
  | 12 => .ringAfter (ns.getD 0 0)
  | 13 => .windingNumber
  | 14 => .stepsUntilQuiet
  | 15 => .cycle
  | 16 => .forwardWaves
  | 17 => .backwardWaves
  | 18 => .standingCount
  | 19 => .maxStanding
  | 20 => .firstStanding (ns.getD 0 0)
  | 21 => .quietIfStandUp (ns.getD 0 0)
  | _ => .getState
/-- a flat list is these calls -/
def Pz : List Nat → List (Nat × List Nat) → Prop
  | l, [] => l = []
  | l, (op, ns) :: cs => ∃ rest : List Nat, op ≤ 22 ∧ ((op ≠ 2 ∧ ns.length = sizes.getD op 0 ∧ l = op :: (ns ++ rest)) ∨ (op = 2 ∧ l = 2 :: ns.length :: (ns ++ rest))) ∧ Pz rest cs
/-- what is due -/
def rowsOf : State → List (Nat × List Nat) → List Int
  | _, [] => []
  | st, (op, ns) :: cs => ((resultRow (execute st (opOf op ns)).2).length : Int) :: resultRow (execute st (opOf op ns)).2 ++ rowsOf (execute st (opOf op ns)).1 cs

/-! ### the calls of the specification -/
def natInts (l : List Nat) : List Int := l.map Int.ofNat
theorem natInts_length (l : List Nat) : (natInts l).length = l.length := List.length_map ..
theorem natInts_take (l : List Nat) (n : Nat) : (natInts l).take n = natInts (l.take n) := List.map_take.symm
theorem natInts_drop (l : List Nat) (n : Nat) : (natInts l).drop n = natInts (l.drop n) := List.map_drop.symm
theorem naturals_natInts (l : List Nat) : naturals (natInts l) = l := by
  unfold naturals natInts
  rw [List.map_map]
  exact (List.map_congr_left fun x _ => rfl).trans (List.map_id l)
theorem shape_small : ∀ op : Fin 23, PyKv439.shape (op.val : Int) = if op.val = 2 then some (0, 1) else some (sizes.getD op.val 0, 0) := by decide
theorem shape_big {op : Nat} (h : 22 < op) : PyKv439.shape (op : Int) = none := by
  unfold PyKv439.shape
  repeat rw [if_neg (by omega)]
theorem whole_is (c : List (List Int)) : PyKv439.whole c = c := by
  unfold PyKv439.whole
  split <;> rfl
theorem len0 {ns : List Nat} (h : ns.length = 0) : ns = [] := List.length_eq_zero_iff.mp h
theorem len1 {ns : List Nat} (h : ns.length = 1) : ∃ x, ns = [x] := by
  match ns, h with
  | [x], _ => exact ⟨x, rfl⟩
theorem len2 {ns : List Nat} (h : ns.length = 2) : ∃ x y, ns = [x, y] := by
  match ns, h with
  | [x, y], _ => exact ⟨x, y, rfl⟩
theorem op_cases {P : Nat → Prop} {op : Nat} (h : op ≤ 22) (h0 : P 0) (h1 : P 1) (h2 : P 2) (h3 : P 3) (h4 : P 4) (h5 : P 5) (h6 : P 6) (h7 : P 7) (h8 : P 8) (h9 : P 9) (h10 : P 10) (h11 : P 11) (h12 : P 12) (h13 : P 13) (h14 : P 14)
    (h15 : P 15) (h16 : P 16) (h17 : P 17) (h18 : P 18) (h19 : P 19) (h20 : P 20) (h21 : P 21) (h22 : P 22) : P op := by
  match op, h with
  | 0, _ => exact h0
  | 1, _ => exact h1
  | 2, _ => exact h2
  | 3, _ => exact h3
  | 4, _ => exact h4
  | 5, _ => exact h5
  | 6, _ => exact h6
  | 7, _ => exact h7
  | 8, _ => exact h8
  | 9, _ => exact h9
  | 10, _ => exact h10
  | 11, _ => exact h11
  | 12, _ => exact h12
  | 13, _ => exact h13
  | 14, _ => exact h14
  | 15, _ => exact h15
  | 16, _ => exact h16
  | 17, _ => exact h17
  | 18, _ => exact h18
  | 19, _ => exact h19
  | 20, _ => exact h20
  | 21, _ => exact h21
  | 22, _ => exact h22
  | n + 23, h => omega
theorem operation_plain {op : Nat} {ns : List Nat} (h : op ≤ 22) (h2 : op ≠ 2) (hl : ns.length = sizes.getD op 0) : operationOf [(op : Int) :: natInts ns] = some (opOf op ns) := by
  revert h2 hl
  refine op_cases (P := fun op => op ≠ 2 → ns.length = sizes.getD op 0 → operationOf [(op : Int) :: natInts ns] = some (opOf op ns)) h ?_ ?_ ?_ ?_ ?_ ?_ ?_ ?_ ?_ ?_ ?_ ?_ ?_ ?_ ?_ ?_ ?_ ?_ ?_ ?_ ?_ ?_ ?_ <;> intro h2 hl <;>
    first
      | exact absurd rfl h2
      | (obtain rfl := len0 hl; rfl)
      | (obtain ⟨x, rfl⟩ := len1 hl; rfl)
      | (obtain ⟨x, y, rfl⟩ := len2 hl; rfl)
theorem operation_list (ns : List Nat) : operationOf [[2], natInts ns] = some (opOf 2 ns) := by
  show some (Operation.setAll (naturals (natInts ns))) = some (Operation.setAll ns)
  rw [naturals_natInts]
theorem step_is {st : State} {c : Call} {o : Operation} (h : operationOf c = some o) : Kv439Neutral.step st c = ((execute st o).1, resultRow (execute st o).2) := by
  unfold Kv439Neutral.step
  rw [h]
/-- the parser's one call -/
theorem call_is {l : List Nat} {c : List (List Int)} {t : List Int} (h : PyFlat.call PyKv439.shape (natInts l) = some (c, t)) :
    ∃ (op : Nat) (ns rest : List Nat), op ≤ 22 ∧ ((op ≠ 2 ∧ ns.length = sizes.getD op 0 ∧ l = op :: (ns ++ rest)) ∨ (op = 2 ∧ l = 2 :: ns.length :: (ns ++ rest))) ∧ operationOf c = some (opOf op ns) ∧ t = natInts rest := by
  match l with
  | [] => exact nomatch h
  | op :: r =>
    have h' : (match PyKv439.shape (op : Int) with
      | none => none
      | some (n, k) => if (natInts r).length < n then none else match PyFlat.rows k ((natInts r).drop n) with
        | none => none
        | some (xs, t) => some (((op : Int) :: (natInts r).take n) :: xs, t)) = some (c, t) := h
    by_cases hop : op ≤ 22
    · have hs := shape_small ⟨op, by omega⟩
      dsimp only at hs
      rw [hs] at h'
      by_cases h2 : op = 2
      · rw [if_pos h2] at h'
        dsimp only at h'
        rw [if_neg (Nat.not_lt_zero _), List.drop_zero, List.take_zero] at h'
        match r with
        | [] => exact nomatch h'
        | n :: r2 =>
          have h3 : (match PyFlat.row (natInts (n :: r2)) with
            | none => none
            | some (x, s) => some ((([op] : List Nat).map Int.ofNat) :: [x], s)) = some (c, t) := by
            refine Eq.trans ?_ h'
            show _ = (match (match PyFlat.row (natInts (n :: r2)) with
              | none => none
              | some (x, s) => match PyFlat.rows 0 s with
                | none => none
                | some (xs, t) => some (x :: xs, t)) with
              | none => none
              | some (xs, t) => some ([(op : Int)] :: xs, t))
            cases PyFlat.row (natInts (n :: r2)) with
            | none => rfl
            | some z => rfl
          have hrow : PyFlat.row (natInts (n :: r2)) = if 0 ≤ (n : Int) ∧ (n : Int).toNat ≤ (natInts r2).length then some ((natInts r2).take (n : Int).toNat, (natInts r2).drop (n : Int).toNat) else none := rfl
          rw [hrow, natInts_length, Int.toNat_natCast] at h3
          by_cases hn : n ≤ r2.length
          · rw [if_pos ⟨Int.natCast_nonneg n, hn⟩] at h3
            have h4 := Option.some.inj h3
            have h5 := (Prod.mk.inj h4).1
            have h6 := (Prod.mk.inj h4).2
            have hlen : (r2.take n).length = n := by
              rw [List.length_take]
              omega
            refine ⟨op, r2.take n, r2.drop n, hop, .inr ⟨h2, ?_⟩, ?_, ?_⟩
            · rw [hlen, List.take_append_drop, h2]
            · rw [← h5, natInts_take, h2]
              exact operation_list _
            · rw [← h6, natInts_drop]
          · rw [if_neg (fun z => hn z.2)] at h3
            cases h3
      · rw [if_neg h2] at h'
        dsimp only at h'
        rw [natInts_length] at h'
        by_cases hn : r.length < sizes.getD op 0
        · rw [if_pos hn] at h'
          cases h'
        · rw [if_neg hn] at h'
          have h4 := Option.some.inj (show some (((op : Int) :: (natInts r).take (sizes.getD op 0)) :: [], (natInts r).drop (sizes.getD op 0)) = some (c, t) from h')
          have h5 := (Prod.mk.inj h4).1
          have h6 := (Prod.mk.inj h4).2
          have hlen : (r.take (sizes.getD op 0)).length = sizes.getD op 0 := by
            rw [List.length_take]
            omega
          refine ⟨op, r.take (sizes.getD op 0), r.drop (sizes.getD op 0), hop, .inl ⟨h2, hlen, by rw [List.take_append_drop]⟩, ?_, ?_⟩
          · rw [← h5, natInts_take]
            exact operation_plain hop h2 hlen
          · rw [← h6, natInts_drop]
    · rw [shape_big (by omega)] at h'
      cases h'
/-- the parser's calls -/
theorem calls_are : ∀ (f : Nat) (l : List Nat) (cs : List (List (List Int))), PyFlat.calls PyKv439.shape f (natInts l) = some cs →
    ∃ ops : List (Nat × List Nat), Pz l ops ∧ ops.length = cs.length ∧ ∀ st : State, PyFlat.told (PyFlat.played Kv439Neutral.step st (cs.map PyKv439.whole)) = rowsOf st ops
  | f, [], cs, h => by
    have h' : (some [] : Option (List (List (List Int)))) = some cs := by
      cases f <;> exact h
    obtain rfl := Option.some.inj h'
    exact ⟨[], rfl, rfl, fun _ => rfl⟩
  | 0, _ :: _, _, h => nomatch h
  | f + 1, op :: r, cs, h => by
    have h' : (match PyFlat.call PyKv439.shape (natInts (op :: r)) with
      | none => none
      | some (c, t) => match PyFlat.calls PyKv439.shape f t with
        | none => none
        | some cs => some (c :: cs)) = some cs := h
    cases e : PyFlat.call PyKv439.shape (natInts (op :: r)) with
    | none =>
      rw [e] at h'
      cases h'
    | some z =>
      obtain ⟨c, t⟩ := z
      rw [e] at h'
      dsimp only at h'
      obtain ⟨op', ns, rest, a1, a2, a3, rfl⟩ := call_is e
      cases e2 : PyFlat.calls PyKv439.shape f (natInts rest) with
      | none =>
        rw [e2] at h'
        cases h'
      | some cs2 =>
        rw [e2] at h'
        obtain rfl := Option.some.inj h'
        obtain ⟨ops, b1, b2, b3⟩ := calls_are f rest cs2 e2
        refine ⟨(op', ns) :: ops, ⟨rest, a1, a2, b1⟩, by rw [List.length_cons, List.length_cons, b2], fun st => ?_⟩
        show PyFlat.told ((Kv439Neutral.step st (PyKv439.whole c)).2 :: PyFlat.played Kv439Neutral.step (Kv439Neutral.step st (PyKv439.whole c)).1 (cs2.map PyKv439.whole)) = _
        rw [whole_is, step_is a3]
        show PyFlat.told (_ :: PyFlat.played Kv439Neutral.step (execute st (opOf op' ns)).1 (cs2.map PyKv439.whole)) = _
        rw [PyFlat.told, List.flatMap_cons, ← PyFlat.told, b3]
        rfl
theorem asked_ops {l : List Nat} (h : PyKv439.answers_asked (natInts l) = true) : ∃ ops : List (Nat × List Nat), Pz l ops ∧ ops.length ≤ 256 ∧ PyKv439.answers (natInts l) = rowsOf none ops := by
  unfold PyKv439.answers_asked at h
  cases e : PyFlat.calls PyKv439.shape (natInts l).length (natInts l) with
  | none =>
    rw [e] at h
    cases h
  | some raw =>
    rw [e] at h
    simp only [Bool.and_eq_true] at h
    obtain ⟨ops, b1, b2, b3⟩ := calls_are _ l raw e
    refine ⟨ops, b1, ?_, ?_⟩
    · rw [b2]
      exact of_decide_eq_true h.1.1.1.2
    · unfold PyKv439.answers PyKv439.calls
      rw [e]
      exact b3 none

/-! ### states and sizes -/
def ringOf : State → Ring
  | none => []
  | some s => s.ring
def timeOf : State → Nat
  | none => 0
  | some s => s.time
def Good : State → Prop
  | none => True
  | some s => 3 ≤ s.ring.length ∧ s.ring.length ≤ 12
theorem good_run {s : Simulator} (h : 3 ≤ s.ring.length ∧ s.ring.length ≤ 12) (o : Operation) : 3 ≤ (s.run o).1.ring.length ∧ (s.run o).1.ring.length ≤ 12 := by
  cases o <;> dsimp only [Simulator.run] <;> (try exact h)
  case create n =>
    split
    · exact h
    · show 3 ≤ (List.replicate n 0).length ∧ (List.replicate n 0).length ≤ 12
      rw [List.length_replicate]
      omega
  case setSection i x =>
    split
    · exact h
    · split
      · exact h
      · show 3 ≤ (s.ring.set i x).length ∧ (s.ring.set i x).length ≤ 12
        rw [List.length_set]
        exact h
  case setAll r =>
    split
    · exact h
    · rename_i c
      have e : r.length = s.ring.length := Decidable.of_not_not fun z => c (.inl z)
      show 3 ≤ r.length ∧ r.length ≤ 12
      rw [e]
      exact h
  case standUp i =>
    split
    · exact h
    · split
      · exact h
      · show 3 ≤ (s.ring.set i 1).length ∧ (s.ring.set i 1).length ≤ 12
        rw [List.length_set]
        exact h
  case startWave i d =>
    split
    · exact h
    · split
      · exact h
      · split
        · exact h
        · show 3 ≤ ((s.ring.set i 1).set _ 2).length ∧ ((s.ring.set i 1).set _ 2).length ≤ 12
          rw [List.length_set, List.length_set]
          exact h
  case step =>
    show 3 ≤ (nextRing s.ring).length ∧ (nextRing s.ring).length ≤ 12
    rw [nextRing_length]
    exact h
  case advance k =>
    split
    · exact h
    · show 3 ≤ (ringAfter s.ring k).length ∧ (ringAfter s.ring k).length ≤ 12
      rw [ringAfter_length]
      exact h
  case rotate d =>
    split
    · exact h
    · show 3 ≤ (rotated s.ring d).length ∧ (rotated s.ring d).length ≤ 12
      unfold rotated
      rw [List.length_map, List.length_range]
      exact h
  case mirror =>
    show 3 ≤ s.ring.reverse.length ∧ s.ring.reverse.length ≤ 12
    rw [List.length_reverse]
    exact h
  case sitDown =>
    show 3 ≤ (List.replicate s.sections 0).length ∧ (List.replicate s.sections 0).length ≤ 12
    rw [List.length_replicate]
    exact h
  all_goals (split <;> first | exact h | (split <;> exact h))
theorem good_execute {st : State} (h : Good st) (o : Operation) : Good (execute st o).1 := by
  match st, o with
  | some s, o => exact good_run h o
  | none, .create n =>
    show Good (if ((newSimulator 3).run (.create n)).2.code < 0 then (none, ((newSimulator 3).run (.create n)).2) else (some ((newSimulator 3).run (.create n)).1, ((newSimulator 3).run (.create n)).2)).1
    split
    · trivial
    · exact good_run (s := newSimulator 3) ⟨by decide, by decide⟩ (.create n)
  | none, .setSection _ _ => trivial
  | none, .setAll _ => trivial
  | none, .standUp _ => trivial
  | none, .startWave _ _ => trivial
  | none, .step => trivial
  | none, .advance _ => trivial
  | none, .rotate _ => trivial
  | none, .mirror => trivial
  | none, .sitDown => trivial
  | none, .getRing => trivial
  | none, .getSection _ => trivial
  | none, .ringAfter _ => trivial
  | none, .windingNumber => trivial
  | none, .stepsUntilQuiet => trivial
  | none, .cycle => trivial
  | none, .forwardWaves => trivial
  | none, .backwardWaves => trivial
  | none, .standingCount => trivial
  | none, .maxStanding => trivial
  | none, .firstStanding _ => trivial
  | none, .quietIfStandUp _ => trivial
  | none, .getState => trivial
theorem short_error (i : Int) : (resultRow (Response.error i)).length ≤ 13 := by
  show 1 ≤ 13
  decide
theorem short_number (n : Nat) : (resultRow (Response.number n)).length ≤ 13 := by
  show 1 ≤ 13
  decide
theorem short_list {l : List Nat} (h : l.length ≤ 12) : (resultRow (Response.list l)).length ≤ 13 := by
  show ((l.length : Int) :: toInts l).length ≤ 13
  rw [List.length_cons, toInts, List.length_map]
  omega
theorem short_optional (o : Option Nat) : (resultRow (Response.optional o)).length ≤ 13 := by
  cases o with
  | none => exact short_error _
  | some n => exact short_number _
theorem range_filter_length (f : Nat → Bool) (n : Nat) : ((List.range n).filter f).length ≤ n := by
  have h := List.length_filter_le f (List.range n)
  rw [List.length_range] at h
  exact h
theorem short_run {s : Simulator} (h : 3 ≤ s.ring.length ∧ s.ring.length ≤ 12) (o : Operation) : (resultRow (s.run o).2).length ≤ 13 := by
  cases o <;> dsimp only [Simulator.run]
  case getRing => exact short_list h.2
  case ringAfter k =>
    split
    · exact short_error _
    · refine short_list ?_
      rw [ringAfter_length]
      exact h.2
  case windingNumber =>
    show 2 ≤ 13
    decide
  case stepsUntilQuiet => exact short_optional _
  case cycle =>
    show 2 ≤ 13
    decide
  case forwardWaves => exact short_list (Nat.le_trans (range_filter_length _ _) h.2)
  case backwardWaves => exact short_list (Nat.le_trans (range_filter_length _ _) h.2)
  case getState =>
    show 3 ≤ 13
    decide
  all_goals first
    | exact short_number _
    | (split <;> first
        | exact short_error _
        | exact short_number _
        | exact short_optional _
        | (split <;> first
            | exact short_error _
            | exact short_number _
            | exact short_optional _
            | (split <;> first | exact short_error _ | exact short_number _)))
theorem short_execute {st : State} (h : Good st) (o : Operation) : (resultRow (execute st o).2).length ≤ 13 := by
  match st, o with
  | some s, o => exact short_run h o
  | none, .create n =>
    show (resultRow (if ((newSimulator 3).run (.create n)).2.code < 0 then (none, ((newSimulator 3).run (.create n)).2) else (some ((newSimulator 3).run (.create n)).1, ((newSimulator 3).run (.create n)).2)).2).length ≤ 13
    split
    · exact short_run (s := newSimulator 3) ⟨by decide, by decide⟩ (.create n)
    · exact short_run (s := newSimulator 3) ⟨by decide, by decide⟩ (.create n)
  | none, .setSection _ _ => exact short_error _
  | none, .setAll _ => exact short_error _
  | none, .standUp _ => exact short_error _
  | none, .startWave _ _ => exact short_error _
  | none, .step => exact short_error _
  | none, .advance _ => exact short_error _
  | none, .rotate _ => exact short_error _
  | none, .mirror => exact short_error _
  | none, .sitDown => exact short_error _
  | none, .getRing => exact short_error _
  | none, .getSection _ => exact short_error _
  | none, .ringAfter _ => exact short_error _
  | none, .windingNumber => exact short_error _
  | none, .stepsUntilQuiet => exact short_error _
  | none, .cycle => exact short_error _
  | none, .forwardWaves => exact short_error _
  | none, .backwardWaves => exact short_error _
  | none, .standingCount => exact short_error _
  | none, .maxStanding => exact short_error _
  | none, .firstStanding _ => exact short_error _
  | none, .quietIfStandUp _ => exact short_error _
  | none, .getState => exact short_error _
theorem same_getSection (s : Simulator) (i : Nat) : (s.run (.getSection i)).1 = s := by
  dsimp only [Simulator.run]
  split <;> rfl
theorem same_ringAfter (s : Simulator) (k : Nat) : (s.run (.ringAfter k)).1 = s := by
  dsimp only [Simulator.run]
  split <;> rfl
theorem same_firstStanding (s : Simulator) (i : Nat) : (s.run (.firstStanding i)).1 = s := by
  dsimp only [Simulator.run]
  split <;> rfl
theorem same_quietIfStandUp (s : Simulator) (i : Nat) : (s.run (.quietIfStandUp i)).1 = s := by
  dsimp only [Simulator.run]
  split
  · rfl
  · split <;> rfl
/-- a query leaves the simulator as it is -/
theorem query_same (s : Simulator) {op : Nat} (ns : List Nat) (h : op ≤ 22) (h10 : 9 < op) : (s.run (opOf op ns)).1 = s := by
  revert h10
  have no : ∀ {k : Nat} {Z : Prop}, k ≤ 9 → 9 < k → Z := fun a b => absurd b (by omega)
  exact op_cases (P := fun op => 9 < op → (s.run (opOf op ns)).1 = s) h (no (by decide)) (no (by decide)) (no (by decide)) (no (by decide)) (no (by decide)) (no (by decide)) (no (by decide)) (no (by decide)) (no (by decide)) (no (by decide))
    (fun _ => rfl) (fun _ => same_getSection s _) (fun _ => same_ringAfter s _) (fun _ => rfl) (fun _ => rfl) (fun _ => rfl) (fun _ => rfl) (fun _ => rfl) (fun _ => rfl) (fun _ => rfl) (fun _ => same_firstStanding s _) (fun _ => same_quietIfStandUp s _) (fun _ => rfl)
theorem none_execute {op : Nat} (ns : List Nat) (h : op ≤ 22) (h0 : op ≠ 0) : execute none (opOf op ns) = (none, .error (-11)) := by
  revert h0
  refine op_cases (P := fun op => op ≠ 0 → execute none (opOf op ns) = (none, .error (-11))) h ?_ ?_ ?_ ?_ ?_ ?_ ?_ ?_ ?_ ?_ ?_ ?_ ?_ ?_ ?_ ?_ ?_ ?_ ?_ ?_ ?_ ?_ ?_ <;> intro h0 <;>
    first
      | exact absurd rfl h0
      | rfl
theorem none_create (n : Nat) : execute none (.create n) = if n < 3 ∨ 12 < n then (none, .error (-22)) else (some (newSimulator n), .number 0) := by
  show (if ((newSimulator 3).run (.create n)).2.code < 0 then (none, ((newSimulator 3).run (.create n)).2) else (some ((newSimulator 3).run (.create n)).1, ((newSimulator 3).run (.create n)).2)) = _
  have e : (newSimulator 3).run (.create n) = if n < 3 ∨ 12 < n then (newSimulator 3, .error (-22)) else (newSimulator n, .number 0) := rfl
  rw [e]
  by_cases c : n < 3 ∨ 12 < n
  · rw [if_pos c, if_pos c]
    rfl
  · rw [if_neg c, if_neg c]
    rfl
theorem some_create (s : Simulator) (n : Nat) : execute (some s) (.create n) = if n < 3 ∨ 12 < n then (some s, .error (-22)) else (some (newSimulator n), .number 0) := by
  have e : s.run (.create n) = if n < 3 ∨ 12 < n then (s, .error (-22)) else (newSimulator n, .number 0) := rfl
  show (some (s.run (.create n)).1, (s.run (.create n)).2) = _
  rw [e]
  by_cases c : n < 3 ∨ 12 < n
  · rw [if_pos c, if_pos c]
  · rw [if_neg c, if_neg c]
end Sw
/-! Words of this proof over the hand layer: defs by name, numbers and rings as values, the simulator in the heap. -/
namespace Sw
open PySem PySem.Spec PyProof.Rows L2 Evl

/-! ### whole numbers, rings -/
abbrev vN (n : Nat) : V := .int (n : Int)
def vNs (r : List Nat) : List V := r.map vN
theorem vNs_length (r : List Nat) : (vNs r).length = r.length := List.length_map ..
theorem vNs_app (r s : List Nat) : vNs (r ++ s) = vNs r ++ vNs s := List.map_append ..
theorem vNs_get {r : List Nat} {i x : Nat} (h : r[i]? = some x) : (vNs r)[i]? = some (vN x) := by
  unfold vNs
  rw [List.getElem?_map, h]
  rfl
theorem vNs_of {r : List Nat} {i : Nat} {v : V} (h : (vNs r)[i]? = some v) : ∃ x, r[i]? = some x ∧ v = vN x := by
  unfold vNs at h
  rw [List.getElem?_map] at h
  cases e : r[i]? with
  | none =>
    rw [e] at h
    cases h
  | some x =>
    rw [e] at h
    exact ⟨x, rfl, (Option.some.inj h).symm⟩
theorem vNs_set (r : List Nat) (i x : Nat) : (vNs r).set i (vN x) = vNs (r.set i x) := by
  unfold vNs
  rw [List.map_set]
theorem vNs_ints (r : List Nat) : vNs r = (r.map Int.ofNat).map V.int := by
  unfold vNs
  rw [List.map_map]
  rfl

/-! ### defs by their names -/
section
variable {P : Program} {w : World} {K : PySem.W.Frag} {mg : Str → Option Value} {base : Heap}
/-- the def x of the text stands behind the top -/
def DR (K : PySem.W.Frag) (mg : Str → Option Value) (x : Str) (st : Stmt) (ps : List Str) : Prop :=
  ∃ (f : Addr) (fd : FuncData), Fun K x x st f fd ∧ mg x = some (.ref f) ∧ Binds K fd ps []
/-- it keeps its promise -/
def Ok (P : Program) (w : World) (K : PySem.W.Frag) (mg : Str → Option Value) (base : Heap) (k : Nat) (x : Str) (ps : List Str) (sp : Sp) : Prop :=
  ∃ (f : Addr) (fd : FuncData), FnOk P w K mg base CX0 k f fd ps sp ∧ mg x = some (.ref f) ∧ PySem.W.keepIn K (.ref f) = true ∧ Binds K fd ps []
theorem DR.ok {x : Str} {st : Stmt} {N ps : List Str} {k : Nat} {sp : Sp} (D : DR K mg x st ps) (S : FnScope N ps (defScope st)) (len : ∀ vs H Q E, sp vs H Q E → vs.length = ps.length)
    (hbody : ∀ (f : Addr) (cdv : Value) (A : Around) (outer : List Env) (s : Shared) (H : Hp) (vs : List V) (Q : VK) (E : XK), Room k (A.deeper (envOfC x (defScope st) s.heap.objs.size f cdv)) → sp vs H Q E →
      ∃ t, PSs (cxOf CX0 P w K mg base N x (defScope st) f cdv A outer s H E).nox (defBody st) t ∧ t { nx := fun _ H' => Q .non H', rt := Q } (start N vs) H) : Ok P w K mg base (k + 1) x ps sp := by
  obtain ⟨f, fd, F, m, b⟩ := D
  exact ⟨f, fd, F.ok S len (hbody f), m, F.kp, b⟩
theorem dr_mk {h : Heap} {x : Str} {st : Stmt} {ps : List Str} {f : Addr} {oc : Value} {od an : Option Addr} {osl : Array (Option Value)} {kV doc pm cdv ct : Value} (X : K.In h) (G : h.Ns mainGlobals mg)
    (a : PySem.W.nsIn K mainGlobals x = some (some (.ref f)))
    (l : K.lookup f = some ⟨oc, od, .func (PySem.W.fnOf x x (defArgs st) (defBody st) (defScope st) .none kV doc pm an cdv ct), osl⟩)
    (c : PySem.W.codeIn K cdv x = true) (k : PySem.W.keepIn K (.ref f) = true)
    (b : ∀ (kV doc pm : Value) (an : Option Addr) (cdv ct : Value) (us : List Value), us.length = ps.length → bindArgs (PySem.W.fnOf x x (defArgs st) (defBody st) (defScope st) .none kV doc pm an cdv ct) ⟨us, []⟩ = pure (ps.zip us)) : DR K mg x st ps :=
  have F := fun_mk (st := st) l c k
  ⟨f, _, F, PySem.W.mg_of X G a, F.binds b⟩
/-- a method of the class at C -/
def MR (K : PySem.W.Frag) (C : Addr) (x qual : Str) (st : Stmt) (ps : List Str) : Prop :=
  ∃ (f : Addr) (fd : FuncData), Fun K x qual st f fd ∧ Meth K C x f ∧ Binds K fd ps []
def MOk (P : Program) (w : World) (K : PySem.W.Frag) (mg : Str → Option Value) (base : Heap) (C : Addr) (k : Nat) (x : Str) (ps : List Str) (sp : Sp) : Prop :=
  ∃ (f : Addr) (fd : FuncData), FnOk P w K mg base CX0 k f fd ps sp ∧ Meth K C x f ∧ Binds K fd ps []
theorem MR.ok {C : Addr} {x qual : Str} {st : Stmt} {N ps : List Str} {k : Nat} {sp : Sp} (D : MR K C x qual st ps) (S : FnScope N ps (defScope st)) (len : ∀ vs H Q E, sp vs H Q E → vs.length = ps.length)
    (hbody : ∀ (f : Addr) (cdv : Value) (A : Around) (outer : List Env) (s : Shared) (H : Hp) (vs : List V) (Q : VK) (E : XK), Room k (A.deeper (envOfC qual (defScope st) s.heap.objs.size f cdv)) → sp vs H Q E →
      ∃ t, PSs (cxOf CX0 P w K mg base N qual (defScope st) f cdv A outer s H E).nox (defBody st) t ∧ t { nx := fun _ H' => Q .non H', rt := Q } (start N vs) H) : MOk P w K mg base C (k + 1) x ps sp := by
  obtain ⟨f, fd, F, m, b⟩ := D
  exact ⟨f, fd, F.ok S len (hbody f), m, b⟩
theorem mr_mk {C f : Addr} {x qual : Str} {st : Stmt} {ps : List Str} {oc : Value} {od an : Option Addr} {osl : Array (Option Value)} {kV doc pm cdv ct : Value}
    (a : PySem.W.findIn K (.ref C) x = some (some (.ref f))) (i : PySem.W.isFn K (.ref f) = true)
    (l : K.lookup f = some ⟨oc, od, .func (PySem.W.fnOf x qual (defArgs st) (defBody st) (defScope st) .none kV doc pm an cdv ct), osl⟩)
    (c : PySem.W.codeIn K cdv qual = true) (k : PySem.W.keepIn K (.ref f) = true)
    (b : ∀ (kV doc pm : Value) (an : Option Addr) (cdv ct : Value) (us : List Value), us.length = ps.length → bindArgs (PySem.W.fnOf x qual (defArgs st) (defBody st) (defScope st) .none kV doc pm an cdv ct) ⟨us, []⟩ = pure (ps.zip us)) : MR K C x qual st ps :=
  have F := fun_mk (st := st) l c k
  ⟨f, _, F, ⟨a, i, k⟩, F.binds b⟩
/-- a whole number of the module's top -/
def CR (mg : Str → Option Value) (x : Str) (i : Int) : Prop := ∃ t, mg x = some (.int i t)
end

/-! ### rules -/
section
variable {X : Cx} {k : Nat} {x : Str} {ps : List Str} {sp : Sp} {p pos apos : Pos} {e o : Expr} {es : List Expr} {t : TA} {ta to : TE} {C : Addr} {i : Int}
theorem pe_ok (O : Ok X.prog X.w X.K X.mg X.base k x ps sp) (hr : Room k X.A) (ha : PA X (e :: es) t) (hg : Gl X x := by rfl) (hdb : (x == ("__debug__" : Str)) = false := by decide)
    (he : starEach (e :: es) X.env = (false, eval e X.env) :: starEach es X.env := by rfl) (hpl : (backTo pos (starEach es X.env)).any (·.1) = false := by rfl) :
    PE X (.Call (.Name x p) (e :: es) [] pos) (tCall sp [] E0 t) := by
  obtain ⟨f, fd, F, m, kp, b⟩ := O
  exact pe_call F hr hg m kp b .nil pass0 ha hdb he hpl
theorem pe_con_ (h : CR X.mg x i) (hg : Gl X x := by rfl) (hd : (x == ("__debug__" : Str)) = false := by decide) : PE X (.Name x pos) (tC (.int i)) := by
  obtain ⟨t, h⟩ := h
  exact pe_glob hg h ⟨t, rfl⟩ hd
theorem pe_mok {m : Str} {pl : Sem Bool} (he : PE X o to) (c : Cls X.K C) (O : MOk X.prog X.w X.K X.mg X.base C k m ps sp) (hr : Room k X.A) (ha : PA X (e :: es) t)
    (hst : starEach (e :: es) X.env = (false, eval e X.env) :: starEach es X.env := by rfl) (hpl : (backTo pos (starEach es X.env)).any (·.1) = false := by rfl)
    (ht : eval (.Call (.Attribute o m apos) (e :: es) [] pos) X.env = (do
      let ov ← eval o X.env
      standAt apos.atName
      let (f, first) ← holding [ov] (getMethod ov m pl)
      callWith pos f first (backTo pos (starEach (e :: es) X.env)) (backToKw pos (keywordEach [] X.env))) := by rfl) :
    PE X (.Call (.Attribute o m apos) (e :: es) [] pos) (tMeth C m sp [] E0 to t) := by
  obtain ⟨f, fd, F, hm, b⟩ := O
  exact pe_meth he c hm F hr b .nil pass0 ha hst hpl ht
theorem pe_mk0 (O : MOk X.prog X.w X.K X.mg X.base C k "__init__" ps sp) (hm : PySem.W.makesIn X.K C = true) (hk : PySem.W.keepIn X.K (.ref C) = true) (hc : X.mg x = some (.ref C)) (hr : Room (k + 1) X.A) (hg : Gl X x := by rfl)
    (hdb : (x == ("__debug__" : Str)) = false := by decide) : PE X (.Call (.Name x p) [] [] pos) (tMake C sp [] E0 tNil) := by
  obtain ⟨f, fd, F, h, b⟩ := O
  exact pe_make0 ⟨hm, h.at_, h.fn, hk⟩ F hr hg hc b .nil pass0 hdb
end
end Sw
/-! What readings evaluate to: whole numbers that are not negative, rings, the simulator. -/
namespace Sw
open PySem PySem.Spec PyProof.Rows L2 Evl

section
variable {K : PySem.W.Frag} {σ : L2.St} {H H' : Hp} {ta tb te tx : TE} {t u : TT} {x y z v : V} {r : R2} {m n : Nat} {i j : Int}
/-! ### numbers -/
theorem ev_N (h : Ev te σ H (.int i)) (e : i = (n : Int)) : Ev te σ H (vN n) := by
  subst e
  exact h
theorem ev_add (ha : Ev ta σ H (.int i)) (hb : Ev tb σ H (.int j)) : Ev (tOp (rI0 fun i j => .int (i + j)) ta tb) σ H (.int (i + j)) := ev_op ha hb rv_I0
theorem ev_sub (ha : Ev ta σ H (.int i)) (hb : Ev tb σ H (.int j)) : Ev (tOp (rI0 fun i j => .int (i - j)) ta tb) σ H (.int (i - j)) := ev_op ha hb rv_I0
theorem ev_mod (ha : Ev ta σ H (.int i)) (hb : Ev tb σ H (.int j)) (h : 0 < j) : Ev (tOp (rI (fun _ j => 0 < j) fun i j => .int (i % j)) ta tb) σ H (.int (i % j)) := ev_op ha hb (rv_I h)
theorem ev_fdiv (ha : Ev ta σ H (.int i)) (hb : Ev tb σ H (.int j)) (h : CDiv i j) : Ev (tOp (rI CDiv fun i j => .int (i / j)) ta tb) σ H (.int (i / j)) := ev_op ha hb (rv_I h)
theorem ev_neg (ha : Ev ta σ H (.int i)) : Ev (tUn (rU fun i => .int (-i)) ta) σ H (.int (-i)) := fun H1 e Q q => ha H1 e _ fun H2 e2 => ⟨i, rfl, q H2 e2⟩
theorem dec_N : decide (vN m = vN n) = decide (m = n) := by
  refine decide_eq_decide.mpr ⟨fun h => ?_, fun h => by rw [h]⟩
  have := V.int.inj h
  omega
theorem ev_eqN (ha : Ev ta σ H (vN m)) (hb : Ev tb σ H (vN n)) : Ev (tOp rEq ta tb) σ H (.bl (decide (m = n))) := ev_is (ev_op ha hb (rv_eq rfl)) (congrArg V.bl dec_N)
theorem ev_neN (ha : Ev ta σ H (vN m)) (hb : Ev tb σ H (vN n)) : Ev (tOp rNe ta tb) σ H (.bl (!decide (m = n))) := ev_is (ev_op ha hb (rv_ne rfl)) (by rw [dec_N])
theorem et_eq (ha : Ev ta σ H (vN m)) (hb : Ev tb σ H (vN n)) : EvT (tTest (tOp rEq ta tb)) σ H (decide (m = n)) := et_test (ev_eqN ha hb)
theorem et_ne (ha : Ev ta σ H (vN m)) (hb : Ev tb σ H (vN n)) : EvT (tTest (tOp rNe ta tb)) σ H (!decide (m = n)) := et_test (ev_neN ha hb)
theorem et_lt (ha : Ev ta σ H (vN m)) (hb : Ev tb σ H (vN n)) : EvT (tTest (tOp (rI0 fun i j => .bl (decide (i < j))) ta tb)) σ H (decide (m < n)) :=
  et_test (ev_is (ev_op ha hb rv_I0) (congrArg V.bl (decide_eq_decide.mpr (by omega))))
theorem et_le (ha : Ev ta σ H (vN m)) (hb : Ev tb σ H (vN n)) : EvT (tTest (tOp (rI0 fun i j => .bl (decide (i ≤ j))) ta tb)) σ H (decide (m ≤ n)) :=
  et_test (ev_is (ev_op ha hb rv_I0) (congrArg V.bl (decide_eq_decide.mpr (by omega))))
theorem et_gt (ha : Ev ta σ H (vN m)) (hb : Ev tb σ H (vN n)) : EvT (tTest (tOp (rI0 fun i j => .bl (decide (j < i))) ta tb)) σ H (decide (n < m)) :=
  et_test (ev_is (ev_op ha hb rv_I0) (congrArg V.bl (decide_eq_decide.mpr (by omega))))
theorem et_ge (ha : Ev ta σ H (vN m)) (hb : Ev tb σ H (vN n)) : EvT (tTest (tOp (rI0 fun i j => .bl (decide (j ≤ i))) ta tb)) σ H (decide (n ≤ m)) :=
  et_test (ev_is (ev_op ha hb rv_I0) (congrArg V.bl (decide_eq_decide.mpr (by omega))))
/-! ### lists -/
theorem el_nil : EvL (tLst tNil) σ H [] := el_lst ea_nil (by decide)
theorem el_one (h : Ev te σ H v) : EvL (tLst (tCons te tNil)) σ H [v] := el_lst (ea_cons h ea_nil) (by show 1 ≤ 100000; decide)
theorem el_two (h : Ev ta σ H x) (h2 : Ev tb σ H y) : EvL (tLst (tCons ta (tCons tb tNil))) σ H [x, y] := el_lst (ea_cons h (ea_cons h2 ea_nil)) (by show 2 ≤ 100000; decide)
theorem el_is {xs ys : List V} (h : EvL te σ H xs) (e : xs = ys) : EvL te σ H ys := by
  rw [← e]
  exact h
theorem el_cat {xs ys : List V} (ha : EvL ta σ H xs) (hb : ∀ H1, Ex H H1 → EvL tb σ H1 ys) (hl : xs.length + ys.length ≤ 100000) : EvL (tOp rCat ta tb) σ H (xs ++ ys) := fun H1 e Q q =>
  ha H1 e _ fun p H2 hp e2 h2 => hb H2 (e.trans e2) H2 (Ex.refl _) _ fun r H3 hr e3 h3 => ⟨p, r, xs, ys, rfl, rfl, e3 _ _ h2, h3, sz_of hl, fun l hl => q l _ (fresh_back (e2.trans e3) hl) ((e2.trans e3).trans (Ex.new hl)) upd_same⟩
theorem ev_ixN {a : Addr} {r : List Nat} {s : Nat} (ha : Ev ta σ H (.ref a)) (hb : Ev tb σ H (vN n)) (h : SqL K H a (vNs r)) (hx : r[n]? = some s) : Ev (tOp (rIxL K) ta tb) σ H (vN s) :=
  ev_op ha hb (rv_ixL h (atI_nat (vNs_get hx)))
theorem ev_ixTN {a : Addr} {r : List Nat} {s : Nat} (ha : Ev ta σ H (.ref a)) (hb : Ev tb σ H (vN n)) (h : SqT K H a (vNs r)) (hx : r[n]? = some s) : Ev (tOp (rIxT K) ta tb) σ H (vN s) :=
  ev_op ha hb (rv_ixT h (atI_nat (vNs_get hx)))
theorem ev_lenR {a : Addr} {r : List Nat} (ha : Ev ta σ H (.ref a)) (h : SqL K H a (vNs r)) : Ev (tCB (rLenS K) (tCons ta tNil)) σ H (vN r.length) := ev_is (ev_len ha h) (by rw [vNs_length])
/-! ### lists of whole numbers compared -/
def dN (n : Nat) : PyData := .int (n : Int)
theorem dp_ring {K : PySem.W.Frag} {H : Hp} : ∀ r : List Nat, DpAll K H (vNs r) (r.map dN)
  | [] => .nil
  | n :: r => .cons (.int (n : Int)) (dp_ring r)
theorem eqv_rings : ∀ r s : List Nat, PyData.eqvAll (r.map dN) (s.map dN) = decide (r = s)
  | [], [] => by simp [PyData.eqvAll]
  | [], _ :: _ => by simp [PyData.eqvAll]
  | _ :: _, [] => by simp [PyData.eqvAll]
  | a :: r, b :: s => by
    rw [List.map_cons, List.map_cons, PyData.eqvAll, eqv_rings r s]
    show ((a : Int) == (b : Int) && decide (r = s)) = decide (a :: r = b :: s)
    by_cases h : a = b
    · subst h
      simp
    · have h2 : ((a : Int) == (b : Int)) = false := by
        rw [beq_eq_false_iff_ne]
        omega
      rw [h2]
      simp [h]
theorem lay_ring : ∀ r : List Nat, PyData.canLayAll0 (r.map dN) = true
  | [] => by simp [PyData.canLayAll0]
  | n :: r => by
    rw [List.map_cons, PyData.canLayAll0, lay_ring r]
    rfl
theorem depth_ring : ∀ r : List Nat, PyData.depthAll (r.map dN) ≤ 1
  | [] => by simp [PyData.depthAll]
  | n :: r => by
    rw [List.map_cons, PyData.depthAll]
    have := depth_ring r
    have e : PyData.depth (dN n) ≤ 1 := by simp [dN, PyData.depth]
    omega
theorem shaped_ring (r : List Nat) : SeqAt.shaped (.list (r.map dN)) = true := by
  unfold SeqAt.shaped
  rw [Bool.and_eq_true]
  refine ⟨?_, decide_eq_true ?_⟩
  · rw [PyData.canLay0]
    exact lay_ring r
  · rw [PyData.depth]
    have := depth_ring r
    omega
theorem rv_eqR {a b : Addr} {r s : List Nat} (h1 : SqL K H a (vNs r)) (h2 : SqL K H b (vNs s)) : RV (rEqD K) (.ref a) (.ref b) H (.bl (decide (r = s))) := fun H1 e Q q =>
  ⟨_, _, .lst (ex_l e h1) (dp_ring r), .lst (ex_l e h2) (dp_ring s), shaped_ring r, shaped_ring s, by
    have g := q H1 (Ex.refl H1)
    have e : PyData.eqv (.list (r.map dN)) (.list (s.map dN)) = decide (r = s) := by
      rw [PyData.eqv]
      exact eqv_rings r s
    rw [e]
    exact g⟩
theorem et_eqR {a b : Addr} {r s : List Nat} (ha : Ev ta σ H (.ref a)) (hb : Ev tb σ H (.ref b)) (h1 : SqL K H a (vNs r)) (h2 : SqL K H b (vNs s)) : EvT (tTest (tOp (rEqD K) ta tb)) σ H (decide (r = s)) :=
  et_test (ev_op ha hb (rv_eqR h1 h2))
/-- a ring compared with the written empty list -/
theorem et_eqNil {a : Addr} {r : List Nat} (ha : Ev ta σ H (.ref a)) (h1 : SqL K H a (vNs r)) : EvT (tTest (tOp (rEqD K) ta (tLst tNil))) σ H (decide (r = [])) :=
  et_test (ev_opL ha el_nil fun p H1 hp e => rv_eqR (ex_l e h1) (sq_of (xs := vNs []) hp))

/-! ### the simulator -/
/-- the simulator at a: its ring stands at p -/
def HallAt (C : Addr) (H : Hp) (a p : Addr) (r : List Nat) (t : Nat) : Prop :=
  (∃ dx, H a = some (.ins C dx [("states", .ref p), ("time", vN t)])) ∧ H p = some (.lst (vNs r))
theorem HallAt.mono {C a p : Addr} {r : List Nat} {t : Nat} (h : HallAt C H a p r t) (e : Ex H H') : HallAt C H' a p r t := by
  obtain ⟨⟨dx, h1⟩, h2⟩ := h
  exact ⟨⟨dx, e _ _ h1⟩, e _ _ h2⟩
theorem HallAt.sq {C a p : Addr} {r : List Nat} {t : Nat} (h : HallAt C H a p r t) : SqL K H p (vNs r) := sq_of h.2
theorem ev_fld {f : Str} {a C dx : Addr} {fs : List (Str × V)} (h : Ev ta σ H (.ref a)) (ho : H a = some (.ins C dx fs)) (c : Cls K C) (nn : NoAttr K C f) (l : fs.lookup f = some v) : Ev (tFld K ta f) σ H v := fun H1 e Q q =>
  h H1 e _ fun H2 e2 => ⟨a, C, dx, fs, v, rfl, e2 _ _ (e _ _ ho), c, nn, l, q H2 e2⟩
theorem lk_here {k : Str} {v : V} {r : List (Str × V)} : List.lookup k ((k, v) :: r) = some v := by
  have e : (k == k) = true := beq_self_eq_true k
  simp only [List.lookup, e]
theorem lk_past {k g : Str} {v : V} {r : List (Str × V)} (h : (k == g) = false) : List.lookup k ((g, v) :: r) = List.lookup k r := by
  simp only [List.lookup, h]
theorem put_here {f : Str} {v x : V} {r : List (Str × V)} : putF f v ((f, x) :: r) = (f, v) :: r := if_pos rfl
theorem put_past {f g : Str} {v x : V} {r : List (Str × V)} (h : ¬ g = f) : putF f v ((g, x) :: r) = (g, x) :: putF f v r := if_neg h
theorem hall_states (p : Addr) (x : V) : ([("states", .ref p), ("time", x)] : List (Str × V)).lookup ("states" : Str) = some (.ref p) := lk_here
theorem hall_time (p : Addr) (x : V) : ([("states", .ref p), ("time", x)] : List (Str × V)).lookup ("time" : Str) = some x := (lk_past (by decide +kernel)).trans lk_here
theorem ev_states {a C p : Addr} {rr : List Nat} {tt : Nat} (h : Ev ta σ H (.ref a)) (hh : HallAt C H a p rr tt) (c : Cls K C) (nn : NoAttr K C "states") : Ev (tFld K ta "states") σ H (.ref p) := by
  obtain ⟨⟨dx, h1⟩, h2⟩ := hh
  exact ev_fld h h1 c nn (hall_states _ _)
theorem ev_time {a C p : Addr} {rr : List Nat} {tt : Nat} (h : Ev ta σ H (.ref a)) (hh : HallAt C H a p rr tt) (c : Cls K C) (nn : NoAttr K C "time") : Ev (tFld K ta "time") σ H (vN tt) := by
  obtain ⟨⟨dx, h1⟩, h2⟩ := hh
  exact ev_fld h h1 c nn (hall_time _ _)
/-- all but what stands at a is as it was -/
def Upd (a : Addr) (H H' : Hp) : Prop := ∀ b o, H b = some o → b ≠ a → H' b = some o
theorem Upd.of_ex {a : Addr} (e : Ex H H') : Upd a H H' := fun b o h _ => e b o h
theorem Upd.trans {a : Addr} {H1 H2 : Hp} (e : Upd a H H1) (f : Upd a H1 H2) : Upd a H H2 := fun b o h hb => f b o (e b o h hb) hb
theorem Upd.put {a : Addr} {o : HO} : Upd a H (upd H a o) := fun b u h hb => by
  rw [upd_ne hb]
  exact h
theorem Upd.free {a p : Addr} (e : Upd a H H') (h : H' p = none) (hp : p ≠ a) : H p = none := by
  cases q : H p with
  | none => rfl
  | some o =>
    rw [e p o q hp] at h
    cases h
/-- the answer of an operation: the simulator is changed, a new list of numbers is handed back -/
def RetC (C a p : Addr) (r : List Nat) (t : Nat) (row : List Int) (H : Hp) (Q : VK) : Prop :=
  ∀ (H' : Hp) (q p' : Addr), Upd a H H' → (p' = p ∨ H p' = none) → HallAt C H' a p' r t → H q = none → H' q = some (.lst (row.map V.int)) → Q (.ref q) H'
theorem RetC.ex {C a p : Addr} {r : List Nat} {t : Nat} {row : List Int} {Q : VK} (h : RetC C a p r t row H Q) (e : Ex H H') : RetC C a p r t row H' Q := fun H2 q p' u hp hh hq h2 =>
  h H2 q p' ((Upd.of_ex e).trans u) (hp.imp id (fresh_back e)) hh (fresh_back e hq) h2
/-- a query's answer -/
theorem RetC.retL {C a p : Addr} {r : List Nat} {t : Nat} {row : List Int} {Q : VK} (k : RetC C a p r t row H Q) (hh : HallAt C H a p r t) : RetL (row.map V.int) H Q := fun q H2 hq e h2 =>
  k H2 q p (.of_ex e) (.inl rfl) (hh.mono e) hq h2
end
end Sw
/-! The text by places: the defs, their scopes, what is asked of the top. Printed by gen.py. -/
namespace Sw
open PySem PySem.Spec PyProof.Rows L2 Evl

/-- the i-th statement of the program -/
def topS (i : Nat) : Stmt := PySem.Challenge.pw_seatwave_s01_answers.main.body.getD i (.Pass ⟨0, 0, 0, 0⟩)
abbrev s_section_after : Stmt := topS 39
abbrev s_section_before : Stmt := topS 40
abbrev s_state_after_step : Stmt := topS 41
abbrev s_stepped : Stmt := topS 42
abbrev s_after_steps : Stmt := topS 43
abbrev s_with_state : Stmt := topS 44
abbrev s_rotated : Stmt := topS 45
abbrev s_mirrored : Stmt := topS 46
abbrev s_seated_ring : Stmt := topS 47
abbrev s_count_state : Stmt := topS 49
abbrev s_count_standing : Stmt := topS 50
abbrev s_is_quiet : Stmt := topS 51
abbrev s_phase_difference : Stmt := topS 52
abbrev s_phase_sum : Stmt := topS 53
abbrev s_winding_of : Stmt := topS 54
abbrev s_standing_between : Stmt := topS 55
abbrev s_forward_in : Stmt := topS 56
abbrev s_backward_in : Stmt := topS 57
abbrev s_create : Stmt := topS 59
abbrev s_set_section : Stmt := topS 60
abbrev s_are_states : Stmt := topS 61
abbrev s_set_all : Stmt := topS 62
abbrev s_stand_up : Stmt := topS 63
abbrev s_is_free : Stmt := topS 64
abbrev s_section_behind : Stmt := topS 65
abbrev s_start_wave : Stmt := topS 66
abbrev s_step : Stmt := topS 67
abbrev s_advance : Stmt := topS 68
abbrev s_rotate : Stmt := topS 69
abbrev s_mirror : Stmt := topS 70
abbrev s_sit_down : Stmt := topS 71
abbrev s_rings_ahead : Stmt := topS 75
abbrev s_quiet_time : Stmt := topS 76
abbrev s_standing_time : Stmt := topS 77
abbrev s_most_standing : Stmt := topS 78
abbrev s_first_place : Stmt := topS 79
abbrev s_first_repeat : Stmt := topS 80
abbrev s_cycle_of : Stmt := topS 81
abbrev s_counted : Stmt := topS 83
abbrev s_get_ring : Stmt := topS 84
abbrev s_get_section : Stmt := topS 85
abbrev s_ring_after : Stmt := topS 86
abbrev s_winding_number : Stmt := topS 87
abbrev s_steps_until_quiet : Stmt := topS 88
abbrev s_cycle : Stmt := topS 89
abbrev s_forward_waves : Stmt := topS 90
abbrev s_backward_waves : Stmt := topS 91
abbrev s_standing_count : Stmt := topS 92
abbrev s_max_standing : Stmt := topS 93
abbrev s_first_standing : Stmt := topS 94
abbrev s_quiet_if_stand_up : Stmt := topS 95
abbrev s_get_state : Stmt := topS 96
abbrev s_first_number : Stmt := topS 99
abbrev s_end_of_call : Stmt := topS 100
abbrev s_numbers_of : Stmt := topS 101
abbrev s_answer_of_change : Stmt := topS 102
abbrev s_answer_of_query : Stmt := topS 103
abbrev s_answer_of : Stmt := topS 104
abbrev s_session_answers : Stmt := topS 105
abbrev s_answers : Stmt := topS 107
abbrev s_init : Stmt := inClass (topS 73) 0
abbrev s_begin : Stmt := inClass (topS 73) 1
abbrev s_put_ring : Stmt := inClass (topS 73) 2
abbrev s_pass_steps : Stmt := inClass (topS 73) 3
theorem sc_section_after : FnScope ["count", "section"] ["count", "section"] (defScope s_section_after) := ⟨rfl, rfl, rfl, by decide +kernel, rfl, by decide +kernel, by decide +kernel⟩
theorem sc_section_before : FnScope ["count", "section"] ["count", "section"] (defScope s_section_before) := ⟨rfl, rfl, rfl, by decide +kernel, rfl, by decide +kernel, by decide +kernel⟩
theorem sc_state_after_step : FnScope ["before", "state", "after"] ["before", "state", "after"] (defScope s_state_after_step) := ⟨rfl, rfl, rfl, by decide +kernel, rfl, by decide +kernel, by decide +kernel⟩
theorem sc_stepped : FnScope ["states", "count", "found", "section", "before", "after"] ["states"] (defScope s_stepped) := ⟨rfl, rfl, rfl, by decide +kernel, rfl, by decide +kernel, by decide +kernel⟩
theorem sc_after_steps : FnScope ["states", "steps", "ring", "turn"] ["states", "steps"] (defScope s_after_steps) := ⟨rfl, rfl, rfl, by decide +kernel, rfl, by decide +kernel, by decide +kernel⟩
theorem sc_with_state : FnScope ["states", "section", "state", "ring"] ["states", "section", "state"] (defScope s_with_state) := ⟨rfl, rfl, rfl, by decide +kernel, rfl, by decide +kernel, by decide +kernel⟩
theorem sc_rotated : FnScope ["states", "distance", "count", "found", "section"] ["states", "distance"] (defScope s_rotated) := ⟨rfl, rfl, rfl, by decide +kernel, rfl, by decide +kernel, by decide +kernel⟩
theorem sc_mirrored : FnScope ["states", "count", "found", "section"] ["states"] (defScope s_mirrored) := ⟨rfl, rfl, rfl, by decide +kernel, rfl, by decide +kernel, by decide +kernel⟩
theorem sc_seated_ring : FnScope ["count", "found", "section"] ["count"] (defScope s_seated_ring) := ⟨rfl, rfl, rfl, by decide +kernel, rfl, by decide +kernel, by decide +kernel⟩
theorem sc_count_state : FnScope ["states", "state", "found", "own"] ["states", "state"] (defScope s_count_state) := ⟨rfl, rfl, rfl, by decide +kernel, rfl, by decide +kernel, by decide +kernel⟩
theorem sc_count_standing : FnScope ["states"] ["states"] (defScope s_count_standing) := ⟨rfl, rfl, rfl, by decide +kernel, rfl, by decide +kernel, by decide +kernel⟩
theorem sc_is_quiet : FnScope ["states"] ["states"] (defScope s_is_quiet) := ⟨rfl, rfl, rfl, by decide +kernel, rfl, by decide +kernel, by decide +kernel⟩
theorem sc_phase_difference : FnScope ["one", "other"] ["one", "other"] (defScope s_phase_difference) := ⟨rfl, rfl, rfl, by decide +kernel, rfl, by decide +kernel, by decide +kernel⟩
theorem sc_phase_sum : FnScope ["states", "count", "found", "section"] ["states"] (defScope s_phase_sum) := ⟨rfl, rfl, rfl, by decide +kernel, rfl, by decide +kernel, by decide +kernel⟩
theorem sc_winding_of : FnScope ["states"] ["states"] (defScope s_winding_of) := ⟨rfl, rfl, rfl, by decide +kernel, rfl, by decide +kernel, by decide +kernel⟩
theorem sc_standing_between : FnScope ["states", "before", "after", "count", "found", "section", "is_behind", "is_ahead"] ["states", "before", "after"] (defScope s_standing_between) := ⟨rfl, rfl, rfl, by decide +kernel, rfl, by decide +kernel, by decide +kernel⟩
theorem sc_forward_in : FnScope ["states"] ["states"] (defScope s_forward_in) := ⟨rfl, rfl, rfl, by decide +kernel, rfl, by decide +kernel, by decide +kernel⟩
theorem sc_backward_in : FnScope ["states"] ["states"] (defScope s_backward_in) := ⟨rfl, rfl, rfl, by decide +kernel, rfl, by decide +kernel, by decide +kernel⟩
theorem sc_create : FnScope ["hall", "sections"] ["hall", "sections"] (defScope s_create) := ⟨rfl, rfl, rfl, by decide +kernel, rfl, by decide +kernel, by decide +kernel⟩
theorem sc_set_section : FnScope ["hall", "section", "state", "previous"] ["hall", "section", "state"] (defScope s_set_section) := ⟨rfl, rfl, rfl, by decide +kernel, rfl, by decide +kernel, by decide +kernel⟩
theorem sc_are_states : FnScope ["states", "state"] ["states"] (defScope s_are_states) := ⟨rfl, rfl, rfl, by decide +kernel, rfl, by decide +kernel, by decide +kernel⟩
theorem sc_set_all : FnScope ["hall", "states"] ["hall", "states"] (defScope s_set_all) := ⟨rfl, rfl, rfl, by decide +kernel, rfl, by decide +kernel, by decide +kernel⟩
theorem sc_stand_up : FnScope ["hall", "section"] ["hall", "section"] (defScope s_stand_up) := ⟨rfl, rfl, rfl, by decide +kernel, rfl, by decide +kernel, by decide +kernel⟩
theorem sc_is_free : FnScope ["states", "section", "count", "own"] ["states", "section"] (defScope s_is_free) := ⟨rfl, rfl, rfl, by decide +kernel, rfl, by decide +kernel, by decide +kernel⟩
theorem sc_section_behind : FnScope ["count", "section", "direction"] ["count", "section", "direction"] (defScope s_section_behind) := ⟨rfl, rfl, rfl, by decide +kernel, rfl, by decide +kernel, by decide +kernel⟩
theorem sc_start_wave : FnScope ["hall", "section", "direction", "count", "ring"] ["hall", "section", "direction"] (defScope s_start_wave) := ⟨rfl, rfl, rfl, by decide +kernel, rfl, by decide +kernel, by decide +kernel⟩
theorem sc_step : FnScope ["hall"] ["hall"] (defScope s_step) := ⟨rfl, rfl, rfl, by decide +kernel, rfl, by decide +kernel, by decide +kernel⟩
theorem sc_advance : FnScope ["hall", "steps"] ["hall", "steps"] (defScope s_advance) := ⟨rfl, rfl, rfl, by decide +kernel, rfl, by decide +kernel, by decide +kernel⟩
theorem sc_rotate : FnScope ["hall", "distance"] ["hall", "distance"] (defScope s_rotate) := ⟨rfl, rfl, rfl, by decide +kernel, rfl, by decide +kernel, by decide +kernel⟩
theorem sc_mirror : FnScope ["hall"] ["hall"] (defScope s_mirror) := ⟨rfl, rfl, rfl, by decide +kernel, rfl, by decide +kernel, by decide +kernel⟩
theorem sc_sit_down : FnScope ["hall", "count", "changed"] ["hall"] (defScope s_sit_down) := ⟨rfl, rfl, rfl, by decide +kernel, rfl, by decide +kernel, by decide +kernel⟩
theorem sc_rings_ahead : FnScope ["states", "ring", "found", "turn"] ["states"] (defScope s_rings_ahead) := ⟨rfl, rfl, rfl, by decide +kernel, rfl, by decide +kernel, by decide +kernel⟩
theorem sc_quiet_time : FnScope ["states", "steps", "ring"] ["states"] (defScope s_quiet_time) := ⟨rfl, rfl, rfl, by decide +kernel, rfl, by decide +kernel, by decide +kernel⟩
theorem sc_standing_time : FnScope ["states", "section", "steps", "ring"] ["states", "section"] (defScope s_standing_time) := ⟨rfl, rfl, rfl, by decide +kernel, rfl, by decide +kernel, by decide +kernel⟩
theorem sc_most_standing : FnScope ["states", "found", "ring"] ["states"] (defScope s_most_standing) := ⟨rfl, rfl, rfl, by decide +kernel, rfl, by decide +kernel, by decide +kernel⟩
theorem sc_first_place : FnScope ["rings", "ring", "index", "own"] ["rings", "ring"] (defScope s_first_place) := ⟨rfl, rfl, rfl, by decide +kernel, rfl, by decide +kernel, by decide +kernel⟩
theorem sc_first_repeat : FnScope ["rings", "index", "ring"] ["rings"] (defScope s_first_repeat) := ⟨rfl, rfl, rfl, by decide +kernel, rfl, by decide +kernel, by decide +kernel⟩
theorem sc_cycle_of : FnScope ["states", "rings", "again", "start"] ["states"] (defScope s_cycle_of) := ⟨rfl, rfl, rfl, by decide +kernel, rfl, by decide +kernel, by decide +kernel⟩
theorem sc_counted : FnScope ["numbers"] ["numbers"] (defScope s_counted) := ⟨rfl, rfl, rfl, by decide +kernel, rfl, by decide +kernel, by decide +kernel⟩
theorem sc_get_ring : FnScope ["hall"] ["hall"] (defScope s_get_ring) := ⟨rfl, rfl, rfl, by decide +kernel, rfl, by decide +kernel, by decide +kernel⟩
theorem sc_get_section : FnScope ["hall", "section"] ["hall", "section"] (defScope s_get_section) := ⟨rfl, rfl, rfl, by decide +kernel, rfl, by decide +kernel, by decide +kernel⟩
theorem sc_ring_after : FnScope ["hall", "steps"] ["hall", "steps"] (defScope s_ring_after) := ⟨rfl, rfl, rfl, by decide +kernel, rfl, by decide +kernel, by decide +kernel⟩
theorem sc_winding_number : FnScope ["hall"] ["hall"] (defScope s_winding_number) := ⟨rfl, rfl, rfl, by decide +kernel, rfl, by decide +kernel, by decide +kernel⟩
theorem sc_steps_until_quiet : FnScope ["hall"] ["hall"] (defScope s_steps_until_quiet) := ⟨rfl, rfl, rfl, by decide +kernel, rfl, by decide +kernel, by decide +kernel⟩
theorem sc_cycle : FnScope ["hall"] ["hall"] (defScope s_cycle) := ⟨rfl, rfl, rfl, by decide +kernel, rfl, by decide +kernel, by decide +kernel⟩
theorem sc_forward_waves : FnScope ["hall"] ["hall"] (defScope s_forward_waves) := ⟨rfl, rfl, rfl, by decide +kernel, rfl, by decide +kernel, by decide +kernel⟩
theorem sc_backward_waves : FnScope ["hall"] ["hall"] (defScope s_backward_waves) := ⟨rfl, rfl, rfl, by decide +kernel, rfl, by decide +kernel, by decide +kernel⟩
theorem sc_standing_count : FnScope ["hall"] ["hall"] (defScope s_standing_count) := ⟨rfl, rfl, rfl, by decide +kernel, rfl, by decide +kernel, by decide +kernel⟩
theorem sc_max_standing : FnScope ["hall"] ["hall"] (defScope s_max_standing) := ⟨rfl, rfl, rfl, by decide +kernel, rfl, by decide +kernel, by decide +kernel⟩
theorem sc_first_standing : FnScope ["hall", "section"] ["hall", "section"] (defScope s_first_standing) := ⟨rfl, rfl, rfl, by decide +kernel, rfl, by decide +kernel, by decide +kernel⟩
theorem sc_quiet_if_stand_up : FnScope ["hall", "section"] ["hall", "section"] (defScope s_quiet_if_stand_up) := ⟨rfl, rfl, rfl, by decide +kernel, rfl, by decide +kernel, by decide +kernel⟩
theorem sc_get_state : FnScope ["hall"] ["hall"] (defScope s_get_state) := ⟨rfl, rfl, rfl, by decide +kernel, rfl, by decide +kernel, by decide +kernel⟩
theorem sc_first_number : FnScope ["calls", "place"] ["calls", "place"] (defScope s_first_number) := ⟨rfl, rfl, rfl, by decide +kernel, rfl, by decide +kernel, by decide +kernel⟩
theorem sc_end_of_call : FnScope ["calls", "place"] ["calls", "place"] (defScope s_end_of_call) := ⟨rfl, rfl, rfl, by decide +kernel, rfl, by decide +kernel, by decide +kernel⟩
theorem sc_numbers_of : FnScope ["calls", "place", "found", "at"] ["calls", "place"] (defScope s_numbers_of) := ⟨rfl, rfl, rfl, by decide +kernel, rfl, by decide +kernel, by decide +kernel⟩
theorem sc_answer_of_change : FnScope ["hall", "operation", "numbers"] ["hall", "operation", "numbers"] (defScope s_answer_of_change) := ⟨rfl, rfl, rfl, by decide +kernel, rfl, by decide +kernel, by decide +kernel⟩
theorem sc_answer_of_query : FnScope ["hall", "operation", "numbers"] ["hall", "operation", "numbers"] (defScope s_answer_of_query) := ⟨rfl, rfl, rfl, by decide +kernel, rfl, by decide +kernel, by decide +kernel⟩
theorem sc_answer_of : FnScope ["hall", "operation", "numbers"] ["hall", "operation", "numbers"] (defScope s_answer_of) := ⟨rfl, rfl, rfl, by decide +kernel, rfl, by decide +kernel, by decide +kernel⟩
theorem sc_session_answers : FnScope ["calls", "hall", "found", "place", "answer"] ["calls"] (defScope s_session_answers) := ⟨rfl, rfl, rfl, by decide +kernel, rfl, by decide +kernel, by decide +kernel⟩
theorem sc_answers : FnScope ["calls"] ["calls"] (defScope s_answers) := ⟨rfl, rfl, rfl, by decide +kernel, rfl, by decide +kernel, by decide +kernel⟩
theorem sc_init : FnScope ["self"] ["self"] (defScope s_init) := ⟨rfl, rfl, rfl, by decide +kernel, rfl, by decide +kernel, by decide +kernel⟩
theorem sc_begin : FnScope ["self", "sections"] ["self", "sections"] (defScope s_begin) := ⟨rfl, rfl, rfl, by decide +kernel, rfl, by decide +kernel, by decide +kernel⟩
theorem sc_put_ring : FnScope ["self", "states"] ["self", "states"] (defScope s_put_ring) := ⟨rfl, rfl, rfl, by decide +kernel, rfl, by decide +kernel, by decide +kernel⟩
theorem sc_pass_steps : FnScope ["self", "steps"] ["self", "steps"] (defScope s_pass_steps) := ⟨rfl, rfl, rfl, by decide +kernel, rfl, by decide +kernel, by decide +kernel⟩
theorem b_section_after : ∀ (kV doc pm : Value) (an : Option Addr) (cdv ct : Value) (us : List Value), us.length = (["count", "section"] : List Str).length → bindArgs (PySem.W.fnOf "section_after" "section_after" (defArgs s_section_after) (defBody s_section_after) (defScope s_section_after) .none kV doc pm an cdv ct) ⟨us, []⟩ = pure ((["count", "section"] : List Str).zip us) := fun _ _ _ _ _ _ us hl => match us, hl with | [_, _], _ => rfl
theorem b_section_before : ∀ (kV doc pm : Value) (an : Option Addr) (cdv ct : Value) (us : List Value), us.length = (["count", "section"] : List Str).length → bindArgs (PySem.W.fnOf "section_before" "section_before" (defArgs s_section_before) (defBody s_section_before) (defScope s_section_before) .none kV doc pm an cdv ct) ⟨us, []⟩ = pure ((["count", "section"] : List Str).zip us) := fun _ _ _ _ _ _ us hl => match us, hl with | [_, _], _ => rfl
theorem b_state_after_step : ∀ (kV doc pm : Value) (an : Option Addr) (cdv ct : Value) (us : List Value), us.length = (["before", "state", "after"] : List Str).length → bindArgs (PySem.W.fnOf "state_after_step" "state_after_step" (defArgs s_state_after_step) (defBody s_state_after_step) (defScope s_state_after_step) .none kV doc pm an cdv ct) ⟨us, []⟩ = pure ((["before", "state", "after"] : List Str).zip us) := fun _ _ _ _ _ _ us hl => match us, hl with | [_, _, _], _ => rfl
theorem b_stepped : ∀ (kV doc pm : Value) (an : Option Addr) (cdv ct : Value) (us : List Value), us.length = (["states"] : List Str).length → bindArgs (PySem.W.fnOf "stepped" "stepped" (defArgs s_stepped) (defBody s_stepped) (defScope s_stepped) .none kV doc pm an cdv ct) ⟨us, []⟩ = pure ((["states"] : List Str).zip us) := fun _ _ _ _ _ _ us hl => match us, hl with | [_], _ => rfl
theorem b_after_steps : ∀ (kV doc pm : Value) (an : Option Addr) (cdv ct : Value) (us : List Value), us.length = (["states", "steps"] : List Str).length → bindArgs (PySem.W.fnOf "after_steps" "after_steps" (defArgs s_after_steps) (defBody s_after_steps) (defScope s_after_steps) .none kV doc pm an cdv ct) ⟨us, []⟩ = pure ((["states", "steps"] : List Str).zip us) := fun _ _ _ _ _ _ us hl => match us, hl with | [_, _], _ => rfl
theorem b_with_state : ∀ (kV doc pm : Value) (an : Option Addr) (cdv ct : Value) (us : List Value), us.length = (["states", "section", "state"] : List Str).length → bindArgs (PySem.W.fnOf "with_state" "with_state" (defArgs s_with_state) (defBody s_with_state) (defScope s_with_state) .none kV doc pm an cdv ct) ⟨us, []⟩ = pure ((["states", "section", "state"] : List Str).zip us) := fun _ _ _ _ _ _ us hl => match us, hl with | [_, _, _], _ => rfl
theorem b_rotated : ∀ (kV doc pm : Value) (an : Option Addr) (cdv ct : Value) (us : List Value), us.length = (["states", "distance"] : List Str).length → bindArgs (PySem.W.fnOf "rotated" "rotated" (defArgs s_rotated) (defBody s_rotated) (defScope s_rotated) .none kV doc pm an cdv ct) ⟨us, []⟩ = pure ((["states", "distance"] : List Str).zip us) := fun _ _ _ _ _ _ us hl => match us, hl with | [_, _], _ => rfl
theorem b_mirrored : ∀ (kV doc pm : Value) (an : Option Addr) (cdv ct : Value) (us : List Value), us.length = (["states"] : List Str).length → bindArgs (PySem.W.fnOf "mirrored" "mirrored" (defArgs s_mirrored) (defBody s_mirrored) (defScope s_mirrored) .none kV doc pm an cdv ct) ⟨us, []⟩ = pure ((["states"] : List Str).zip us) := fun _ _ _ _ _ _ us hl => match us, hl with | [_], _ => rfl
theorem b_seated_ring : ∀ (kV doc pm : Value) (an : Option Addr) (cdv ct : Value) (us : List Value), us.length = (["count"] : List Str).length → bindArgs (PySem.W.fnOf "seated_ring" "seated_ring" (defArgs s_seated_ring) (defBody s_seated_ring) (defScope s_seated_ring) .none kV doc pm an cdv ct) ⟨us, []⟩ = pure ((["count"] : List Str).zip us) := fun _ _ _ _ _ _ us hl => match us, hl with | [_], _ => rfl
theorem b_count_state : ∀ (kV doc pm : Value) (an : Option Addr) (cdv ct : Value) (us : List Value), us.length = (["states", "state"] : List Str).length → bindArgs (PySem.W.fnOf "count_state" "count_state" (defArgs s_count_state) (defBody s_count_state) (defScope s_count_state) .none kV doc pm an cdv ct) ⟨us, []⟩ = pure ((["states", "state"] : List Str).zip us) := fun _ _ _ _ _ _ us hl => match us, hl with | [_, _], _ => rfl
theorem b_count_standing : ∀ (kV doc pm : Value) (an : Option Addr) (cdv ct : Value) (us : List Value), us.length = (["states"] : List Str).length → bindArgs (PySem.W.fnOf "count_standing" "count_standing" (defArgs s_count_standing) (defBody s_count_standing) (defScope s_count_standing) .none kV doc pm an cdv ct) ⟨us, []⟩ = pure ((["states"] : List Str).zip us) := fun _ _ _ _ _ _ us hl => match us, hl with | [_], _ => rfl
theorem b_is_quiet : ∀ (kV doc pm : Value) (an : Option Addr) (cdv ct : Value) (us : List Value), us.length = (["states"] : List Str).length → bindArgs (PySem.W.fnOf "is_quiet" "is_quiet" (defArgs s_is_quiet) (defBody s_is_quiet) (defScope s_is_quiet) .none kV doc pm an cdv ct) ⟨us, []⟩ = pure ((["states"] : List Str).zip us) := fun _ _ _ _ _ _ us hl => match us, hl with | [_], _ => rfl
theorem b_phase_difference : ∀ (kV doc pm : Value) (an : Option Addr) (cdv ct : Value) (us : List Value), us.length = (["one", "other"] : List Str).length → bindArgs (PySem.W.fnOf "phase_difference" "phase_difference" (defArgs s_phase_difference) (defBody s_phase_difference) (defScope s_phase_difference) .none kV doc pm an cdv ct) ⟨us, []⟩ = pure ((["one", "other"] : List Str).zip us) := fun _ _ _ _ _ _ us hl => match us, hl with | [_, _], _ => rfl
theorem b_phase_sum : ∀ (kV doc pm : Value) (an : Option Addr) (cdv ct : Value) (us : List Value), us.length = (["states"] : List Str).length → bindArgs (PySem.W.fnOf "phase_sum" "phase_sum" (defArgs s_phase_sum) (defBody s_phase_sum) (defScope s_phase_sum) .none kV doc pm an cdv ct) ⟨us, []⟩ = pure ((["states"] : List Str).zip us) := fun _ _ _ _ _ _ us hl => match us, hl with | [_], _ => rfl
theorem b_winding_of : ∀ (kV doc pm : Value) (an : Option Addr) (cdv ct : Value) (us : List Value), us.length = (["states"] : List Str).length → bindArgs (PySem.W.fnOf "winding_of" "winding_of" (defArgs s_winding_of) (defBody s_winding_of) (defScope s_winding_of) .none kV doc pm an cdv ct) ⟨us, []⟩ = pure ((["states"] : List Str).zip us) := fun _ _ _ _ _ _ us hl => match us, hl with | [_], _ => rfl
theorem b_standing_between : ∀ (kV doc pm : Value) (an : Option Addr) (cdv ct : Value) (us : List Value), us.length = (["states", "before", "after"] : List Str).length → bindArgs (PySem.W.fnOf "standing_between" "standing_between" (defArgs s_standing_between) (defBody s_standing_between) (defScope s_standing_between) .none kV doc pm an cdv ct) ⟨us, []⟩ = pure ((["states", "before", "after"] : List Str).zip us) := fun _ _ _ _ _ _ us hl => match us, hl with | [_, _, _], _ => rfl
theorem b_forward_in : ∀ (kV doc pm : Value) (an : Option Addr) (cdv ct : Value) (us : List Value), us.length = (["states"] : List Str).length → bindArgs (PySem.W.fnOf "forward_in" "forward_in" (defArgs s_forward_in) (defBody s_forward_in) (defScope s_forward_in) .none kV doc pm an cdv ct) ⟨us, []⟩ = pure ((["states"] : List Str).zip us) := fun _ _ _ _ _ _ us hl => match us, hl with | [_], _ => rfl
theorem b_backward_in : ∀ (kV doc pm : Value) (an : Option Addr) (cdv ct : Value) (us : List Value), us.length = (["states"] : List Str).length → bindArgs (PySem.W.fnOf "backward_in" "backward_in" (defArgs s_backward_in) (defBody s_backward_in) (defScope s_backward_in) .none kV doc pm an cdv ct) ⟨us, []⟩ = pure ((["states"] : List Str).zip us) := fun _ _ _ _ _ _ us hl => match us, hl with | [_], _ => rfl
theorem b_create : ∀ (kV doc pm : Value) (an : Option Addr) (cdv ct : Value) (us : List Value), us.length = (["hall", "sections"] : List Str).length → bindArgs (PySem.W.fnOf "create" "create" (defArgs s_create) (defBody s_create) (defScope s_create) .none kV doc pm an cdv ct) ⟨us, []⟩ = pure ((["hall", "sections"] : List Str).zip us) := fun _ _ _ _ _ _ us hl => match us, hl with | [_, _], _ => rfl
theorem b_set_section : ∀ (kV doc pm : Value) (an : Option Addr) (cdv ct : Value) (us : List Value), us.length = (["hall", "section", "state"] : List Str).length → bindArgs (PySem.W.fnOf "set_section" "set_section" (defArgs s_set_section) (defBody s_set_section) (defScope s_set_section) .none kV doc pm an cdv ct) ⟨us, []⟩ = pure ((["hall", "section", "state"] : List Str).zip us) := fun _ _ _ _ _ _ us hl => match us, hl with | [_, _, _], _ => rfl
theorem b_are_states : ∀ (kV doc pm : Value) (an : Option Addr) (cdv ct : Value) (us : List Value), us.length = (["states"] : List Str).length → bindArgs (PySem.W.fnOf "are_states" "are_states" (defArgs s_are_states) (defBody s_are_states) (defScope s_are_states) .none kV doc pm an cdv ct) ⟨us, []⟩ = pure ((["states"] : List Str).zip us) := fun _ _ _ _ _ _ us hl => match us, hl with | [_], _ => rfl
theorem b_set_all : ∀ (kV doc pm : Value) (an : Option Addr) (cdv ct : Value) (us : List Value), us.length = (["hall", "states"] : List Str).length → bindArgs (PySem.W.fnOf "set_all" "set_all" (defArgs s_set_all) (defBody s_set_all) (defScope s_set_all) .none kV doc pm an cdv ct) ⟨us, []⟩ = pure ((["hall", "states"] : List Str).zip us) := fun _ _ _ _ _ _ us hl => match us, hl with | [_, _], _ => rfl
theorem b_stand_up : ∀ (kV doc pm : Value) (an : Option Addr) (cdv ct : Value) (us : List Value), us.length = (["hall", "section"] : List Str).length → bindArgs (PySem.W.fnOf "stand_up" "stand_up" (defArgs s_stand_up) (defBody s_stand_up) (defScope s_stand_up) .none kV doc pm an cdv ct) ⟨us, []⟩ = pure ((["hall", "section"] : List Str).zip us) := fun _ _ _ _ _ _ us hl => match us, hl with | [_, _], _ => rfl
theorem b_is_free : ∀ (kV doc pm : Value) (an : Option Addr) (cdv ct : Value) (us : List Value), us.length = (["states", "section"] : List Str).length → bindArgs (PySem.W.fnOf "is_free" "is_free" (defArgs s_is_free) (defBody s_is_free) (defScope s_is_free) .none kV doc pm an cdv ct) ⟨us, []⟩ = pure ((["states", "section"] : List Str).zip us) := fun _ _ _ _ _ _ us hl => match us, hl with | [_, _], _ => rfl
theorem b_section_behind : ∀ (kV doc pm : Value) (an : Option Addr) (cdv ct : Value) (us : List Value), us.length = (["count", "section", "direction"] : List Str).length → bindArgs (PySem.W.fnOf "section_behind" "section_behind" (defArgs s_section_behind) (defBody s_section_behind) (defScope s_section_behind) .none kV doc pm an cdv ct) ⟨us, []⟩ = pure ((["count", "section", "direction"] : List Str).zip us) := fun _ _ _ _ _ _ us hl => match us, hl with | [_, _, _], _ => rfl
theorem b_start_wave : ∀ (kV doc pm : Value) (an : Option Addr) (cdv ct : Value) (us : List Value), us.length = (["hall", "section", "direction"] : List Str).length → bindArgs (PySem.W.fnOf "start_wave" "start_wave" (defArgs s_start_wave) (defBody s_start_wave) (defScope s_start_wave) .none kV doc pm an cdv ct) ⟨us, []⟩ = pure ((["hall", "section", "direction"] : List Str).zip us) := fun _ _ _ _ _ _ us hl => match us, hl with | [_, _, _], _ => rfl
theorem b_step : ∀ (kV doc pm : Value) (an : Option Addr) (cdv ct : Value) (us : List Value), us.length = (["hall"] : List Str).length → bindArgs (PySem.W.fnOf "step" "step" (defArgs s_step) (defBody s_step) (defScope s_step) .none kV doc pm an cdv ct) ⟨us, []⟩ = pure ((["hall"] : List Str).zip us) := fun _ _ _ _ _ _ us hl => match us, hl with | [_], _ => rfl
theorem b_advance : ∀ (kV doc pm : Value) (an : Option Addr) (cdv ct : Value) (us : List Value), us.length = (["hall", "steps"] : List Str).length → bindArgs (PySem.W.fnOf "advance" "advance" (defArgs s_advance) (defBody s_advance) (defScope s_advance) .none kV doc pm an cdv ct) ⟨us, []⟩ = pure ((["hall", "steps"] : List Str).zip us) := fun _ _ _ _ _ _ us hl => match us, hl with | [_, _], _ => rfl
theorem b_rotate : ∀ (kV doc pm : Value) (an : Option Addr) (cdv ct : Value) (us : List Value), us.length = (["hall", "distance"] : List Str).length → bindArgs (PySem.W.fnOf "rotate" "rotate" (defArgs s_rotate) (defBody s_rotate) (defScope s_rotate) .none kV doc pm an cdv ct) ⟨us, []⟩ = pure ((["hall", "distance"] : List Str).zip us) := fun _ _ _ _ _ _ us hl => match us, hl with | [_, _], _ => rfl
theorem b_mirror : ∀ (kV doc pm : Value) (an : Option Addr) (cdv ct : Value) (us : List Value), us.length = (["hall"] : List Str).length → bindArgs (PySem.W.fnOf "mirror" "mirror" (defArgs s_mirror) (defBody s_mirror) (defScope s_mirror) .none kV doc pm an cdv ct) ⟨us, []⟩ = pure ((["hall"] : List Str).zip us) := fun _ _ _ _ _ _ us hl => match us, hl with | [_], _ => rfl
theorem b_sit_down : ∀ (kV doc pm : Value) (an : Option Addr) (cdv ct : Value) (us : List Value), us.length = (["hall"] : List Str).length → bindArgs (PySem.W.fnOf "sit_down" "sit_down" (defArgs s_sit_down) (defBody s_sit_down) (defScope s_sit_down) .none kV doc pm an cdv ct) ⟨us, []⟩ = pure ((["hall"] : List Str).zip us) := fun _ _ _ _ _ _ us hl => match us, hl with | [_], _ => rfl
theorem b_rings_ahead : ∀ (kV doc pm : Value) (an : Option Addr) (cdv ct : Value) (us : List Value), us.length = (["states"] : List Str).length → bindArgs (PySem.W.fnOf "rings_ahead" "rings_ahead" (defArgs s_rings_ahead) (defBody s_rings_ahead) (defScope s_rings_ahead) .none kV doc pm an cdv ct) ⟨us, []⟩ = pure ((["states"] : List Str).zip us) := fun _ _ _ _ _ _ us hl => match us, hl with | [_], _ => rfl
theorem b_quiet_time : ∀ (kV doc pm : Value) (an : Option Addr) (cdv ct : Value) (us : List Value), us.length = (["states"] : List Str).length → bindArgs (PySem.W.fnOf "quiet_time" "quiet_time" (defArgs s_quiet_time) (defBody s_quiet_time) (defScope s_quiet_time) .none kV doc pm an cdv ct) ⟨us, []⟩ = pure ((["states"] : List Str).zip us) := fun _ _ _ _ _ _ us hl => match us, hl with | [_], _ => rfl
theorem b_standing_time : ∀ (kV doc pm : Value) (an : Option Addr) (cdv ct : Value) (us : List Value), us.length = (["states", "section"] : List Str).length → bindArgs (PySem.W.fnOf "standing_time" "standing_time" (defArgs s_standing_time) (defBody s_standing_time) (defScope s_standing_time) .none kV doc pm an cdv ct) ⟨us, []⟩ = pure ((["states", "section"] : List Str).zip us) := fun _ _ _ _ _ _ us hl => match us, hl with | [_, _], _ => rfl
theorem b_most_standing : ∀ (kV doc pm : Value) (an : Option Addr) (cdv ct : Value) (us : List Value), us.length = (["states"] : List Str).length → bindArgs (PySem.W.fnOf "most_standing" "most_standing" (defArgs s_most_standing) (defBody s_most_standing) (defScope s_most_standing) .none kV doc pm an cdv ct) ⟨us, []⟩ = pure ((["states"] : List Str).zip us) := fun _ _ _ _ _ _ us hl => match us, hl with | [_], _ => rfl
theorem b_first_place : ∀ (kV doc pm : Value) (an : Option Addr) (cdv ct : Value) (us : List Value), us.length = (["rings", "ring"] : List Str).length → bindArgs (PySem.W.fnOf "first_place" "first_place" (defArgs s_first_place) (defBody s_first_place) (defScope s_first_place) .none kV doc pm an cdv ct) ⟨us, []⟩ = pure ((["rings", "ring"] : List Str).zip us) := fun _ _ _ _ _ _ us hl => match us, hl with | [_, _], _ => rfl
theorem b_first_repeat : ∀ (kV doc pm : Value) (an : Option Addr) (cdv ct : Value) (us : List Value), us.length = (["rings"] : List Str).length → bindArgs (PySem.W.fnOf "first_repeat" "first_repeat" (defArgs s_first_repeat) (defBody s_first_repeat) (defScope s_first_repeat) .none kV doc pm an cdv ct) ⟨us, []⟩ = pure ((["rings"] : List Str).zip us) := fun _ _ _ _ _ _ us hl => match us, hl with | [_], _ => rfl
theorem b_cycle_of : ∀ (kV doc pm : Value) (an : Option Addr) (cdv ct : Value) (us : List Value), us.length = (["states"] : List Str).length → bindArgs (PySem.W.fnOf "cycle_of" "cycle_of" (defArgs s_cycle_of) (defBody s_cycle_of) (defScope s_cycle_of) .none kV doc pm an cdv ct) ⟨us, []⟩ = pure ((["states"] : List Str).zip us) := fun _ _ _ _ _ _ us hl => match us, hl with | [_], _ => rfl
theorem b_counted : ∀ (kV doc pm : Value) (an : Option Addr) (cdv ct : Value) (us : List Value), us.length = (["numbers"] : List Str).length → bindArgs (PySem.W.fnOf "counted" "counted" (defArgs s_counted) (defBody s_counted) (defScope s_counted) .none kV doc pm an cdv ct) ⟨us, []⟩ = pure ((["numbers"] : List Str).zip us) := fun _ _ _ _ _ _ us hl => match us, hl with | [_], _ => rfl
theorem b_get_ring : ∀ (kV doc pm : Value) (an : Option Addr) (cdv ct : Value) (us : List Value), us.length = (["hall"] : List Str).length → bindArgs (PySem.W.fnOf "get_ring" "get_ring" (defArgs s_get_ring) (defBody s_get_ring) (defScope s_get_ring) .none kV doc pm an cdv ct) ⟨us, []⟩ = pure ((["hall"] : List Str).zip us) := fun _ _ _ _ _ _ us hl => match us, hl with | [_], _ => rfl
theorem b_get_section : ∀ (kV doc pm : Value) (an : Option Addr) (cdv ct : Value) (us : List Value), us.length = (["hall", "section"] : List Str).length → bindArgs (PySem.W.fnOf "get_section" "get_section" (defArgs s_get_section) (defBody s_get_section) (defScope s_get_section) .none kV doc pm an cdv ct) ⟨us, []⟩ = pure ((["hall", "section"] : List Str).zip us) := fun _ _ _ _ _ _ us hl => match us, hl with | [_, _], _ => rfl
theorem b_ring_after : ∀ (kV doc pm : Value) (an : Option Addr) (cdv ct : Value) (us : List Value), us.length = (["hall", "steps"] : List Str).length → bindArgs (PySem.W.fnOf "ring_after" "ring_after" (defArgs s_ring_after) (defBody s_ring_after) (defScope s_ring_after) .none kV doc pm an cdv ct) ⟨us, []⟩ = pure ((["hall", "steps"] : List Str).zip us) := fun _ _ _ _ _ _ us hl => match us, hl with | [_, _], _ => rfl
theorem b_winding_number : ∀ (kV doc pm : Value) (an : Option Addr) (cdv ct : Value) (us : List Value), us.length = (["hall"] : List Str).length → bindArgs (PySem.W.fnOf "winding_number" "winding_number" (defArgs s_winding_number) (defBody s_winding_number) (defScope s_winding_number) .none kV doc pm an cdv ct) ⟨us, []⟩ = pure ((["hall"] : List Str).zip us) := fun _ _ _ _ _ _ us hl => match us, hl with | [_], _ => rfl
theorem b_steps_until_quiet : ∀ (kV doc pm : Value) (an : Option Addr) (cdv ct : Value) (us : List Value), us.length = (["hall"] : List Str).length → bindArgs (PySem.W.fnOf "steps_until_quiet" "steps_until_quiet" (defArgs s_steps_until_quiet) (defBody s_steps_until_quiet) (defScope s_steps_until_quiet) .none kV doc pm an cdv ct) ⟨us, []⟩ = pure ((["hall"] : List Str).zip us) := fun _ _ _ _ _ _ us hl => match us, hl with | [_], _ => rfl
theorem b_cycle : ∀ (kV doc pm : Value) (an : Option Addr) (cdv ct : Value) (us : List Value), us.length = (["hall"] : List Str).length → bindArgs (PySem.W.fnOf "cycle" "cycle" (defArgs s_cycle) (defBody s_cycle) (defScope s_cycle) .none kV doc pm an cdv ct) ⟨us, []⟩ = pure ((["hall"] : List Str).zip us) := fun _ _ _ _ _ _ us hl => match us, hl with | [_], _ => rfl
theorem b_forward_waves : ∀ (kV doc pm : Value) (an : Option Addr) (cdv ct : Value) (us : List Value), us.length = (["hall"] : List Str).length → bindArgs (PySem.W.fnOf "forward_waves" "forward_waves" (defArgs s_forward_waves) (defBody s_forward_waves) (defScope s_forward_waves) .none kV doc pm an cdv ct) ⟨us, []⟩ = pure ((["hall"] : List Str).zip us) := fun _ _ _ _ _ _ us hl => match us, hl with | [_], _ => rfl
theorem b_backward_waves : ∀ (kV doc pm : Value) (an : Option Addr) (cdv ct : Value) (us : List Value), us.length = (["hall"] : List Str).length → bindArgs (PySem.W.fnOf "backward_waves" "backward_waves" (defArgs s_backward_waves) (defBody s_backward_waves) (defScope s_backward_waves) .none kV doc pm an cdv ct) ⟨us, []⟩ = pure ((["hall"] : List Str).zip us) := fun _ _ _ _ _ _ us hl => match us, hl with | [_], _ => rfl
theorem b_standing_count : ∀ (kV doc pm : Value) (an : Option Addr) (cdv ct : Value) (us : List Value), us.length = (["hall"] : List Str).length → bindArgs (PySem.W.fnOf "standing_count" "standing_count" (defArgs s_standing_count) (defBody s_standing_count) (defScope s_standing_count) .none kV doc pm an cdv ct) ⟨us, []⟩ = pure ((["hall"] : List Str).zip us) := fun _ _ _ _ _ _ us hl => match us, hl with | [_], _ => rfl
theorem b_max_standing : ∀ (kV doc pm : Value) (an : Option Addr) (cdv ct : Value) (us : List Value), us.length = (["hall"] : List Str).length → bindArgs (PySem.W.fnOf "max_standing" "max_standing" (defArgs s_max_standing) (defBody s_max_standing) (defScope s_max_standing) .none kV doc pm an cdv ct) ⟨us, []⟩ = pure ((["hall"] : List Str).zip us) := fun _ _ _ _ _ _ us hl => match us, hl with | [_], _ => rfl
theorem b_first_standing : ∀ (kV doc pm : Value) (an : Option Addr) (cdv ct : Value) (us : List Value), us.length = (["hall", "section"] : List Str).length → bindArgs (PySem.W.fnOf "first_standing" "first_standing" (defArgs s_first_standing) (defBody s_first_standing) (defScope s_first_standing) .none kV doc pm an cdv ct) ⟨us, []⟩ = pure ((["hall", "section"] : List Str).zip us) := fun _ _ _ _ _ _ us hl => match us, hl with | [_, _], _ => rfl
theorem b_quiet_if_stand_up : ∀ (kV doc pm : Value) (an : Option Addr) (cdv ct : Value) (us : List Value), us.length = (["hall", "section"] : List Str).length → bindArgs (PySem.W.fnOf "quiet_if_stand_up" "quiet_if_stand_up" (defArgs s_quiet_if_stand_up) (defBody s_quiet_if_stand_up) (defScope s_quiet_if_stand_up) .none kV doc pm an cdv ct) ⟨us, []⟩ = pure ((["hall", "section"] : List Str).zip us) := fun _ _ _ _ _ _ us hl => match us, hl with | [_, _], _ => rfl
theorem b_get_state : ∀ (kV doc pm : Value) (an : Option Addr) (cdv ct : Value) (us : List Value), us.length = (["hall"] : List Str).length → bindArgs (PySem.W.fnOf "get_state" "get_state" (defArgs s_get_state) (defBody s_get_state) (defScope s_get_state) .none kV doc pm an cdv ct) ⟨us, []⟩ = pure ((["hall"] : List Str).zip us) := fun _ _ _ _ _ _ us hl => match us, hl with | [_], _ => rfl
theorem b_first_number : ∀ (kV doc pm : Value) (an : Option Addr) (cdv ct : Value) (us : List Value), us.length = (["calls", "place"] : List Str).length → bindArgs (PySem.W.fnOf "first_number" "first_number" (defArgs s_first_number) (defBody s_first_number) (defScope s_first_number) .none kV doc pm an cdv ct) ⟨us, []⟩ = pure ((["calls", "place"] : List Str).zip us) := fun _ _ _ _ _ _ us hl => match us, hl with | [_, _], _ => rfl
theorem b_end_of_call : ∀ (kV doc pm : Value) (an : Option Addr) (cdv ct : Value) (us : List Value), us.length = (["calls", "place"] : List Str).length → bindArgs (PySem.W.fnOf "end_of_call" "end_of_call" (defArgs s_end_of_call) (defBody s_end_of_call) (defScope s_end_of_call) .none kV doc pm an cdv ct) ⟨us, []⟩ = pure ((["calls", "place"] : List Str).zip us) := fun _ _ _ _ _ _ us hl => match us, hl with | [_, _], _ => rfl
theorem b_numbers_of : ∀ (kV doc pm : Value) (an : Option Addr) (cdv ct : Value) (us : List Value), us.length = (["calls", "place"] : List Str).length → bindArgs (PySem.W.fnOf "numbers_of" "numbers_of" (defArgs s_numbers_of) (defBody s_numbers_of) (defScope s_numbers_of) .none kV doc pm an cdv ct) ⟨us, []⟩ = pure ((["calls", "place"] : List Str).zip us) := fun _ _ _ _ _ _ us hl => match us, hl with | [_, _], _ => rfl
theorem b_answer_of_change : ∀ (kV doc pm : Value) (an : Option Addr) (cdv ct : Value) (us : List Value), us.length = (["hall", "operation", "numbers"] : List Str).length → bindArgs (PySem.W.fnOf "answer_of_change" "answer_of_change" (defArgs s_answer_of_change) (defBody s_answer_of_change) (defScope s_answer_of_change) .none kV doc pm an cdv ct) ⟨us, []⟩ = pure ((["hall", "operation", "numbers"] : List Str).zip us) := fun _ _ _ _ _ _ us hl => match us, hl with | [_, _, _], _ => rfl
theorem b_answer_of_query : ∀ (kV doc pm : Value) (an : Option Addr) (cdv ct : Value) (us : List Value), us.length = (["hall", "operation", "numbers"] : List Str).length → bindArgs (PySem.W.fnOf "answer_of_query" "answer_of_query" (defArgs s_answer_of_query) (defBody s_answer_of_query) (defScope s_answer_of_query) .none kV doc pm an cdv ct) ⟨us, []⟩ = pure ((["hall", "operation", "numbers"] : List Str).zip us) := fun _ _ _ _ _ _ us hl => match us, hl with | [_, _, _], _ => rfl
theorem b_answer_of : ∀ (kV doc pm : Value) (an : Option Addr) (cdv ct : Value) (us : List Value), us.length = (["hall", "operation", "numbers"] : List Str).length → bindArgs (PySem.W.fnOf "answer_of" "answer_of" (defArgs s_answer_of) (defBody s_answer_of) (defScope s_answer_of) .none kV doc pm an cdv ct) ⟨us, []⟩ = pure ((["hall", "operation", "numbers"] : List Str).zip us) := fun _ _ _ _ _ _ us hl => match us, hl with | [_, _, _], _ => rfl
theorem b_session_answers : ∀ (kV doc pm : Value) (an : Option Addr) (cdv ct : Value) (us : List Value), us.length = (["calls"] : List Str).length → bindArgs (PySem.W.fnOf "session_answers" "session_answers" (defArgs s_session_answers) (defBody s_session_answers) (defScope s_session_answers) .none kV doc pm an cdv ct) ⟨us, []⟩ = pure ((["calls"] : List Str).zip us) := fun _ _ _ _ _ _ us hl => match us, hl with | [_], _ => rfl
theorem b_answers : ∀ (kV doc pm : Value) (an : Option Addr) (cdv ct : Value) (us : List Value), us.length = (["calls"] : List Str).length → bindArgs (PySem.W.fnOf "answers" "answers" (defArgs s_answers) (defBody s_answers) (defScope s_answers) .none kV doc pm an cdv ct) ⟨us, []⟩ = pure ((["calls"] : List Str).zip us) := fun _ _ _ _ _ _ us hl => match us, hl with | [_], _ => rfl
theorem b_init : ∀ (kV doc pm : Value) (an : Option Addr) (cdv ct : Value) (us : List Value), us.length = (["self"] : List Str).length → bindArgs (PySem.W.fnOf "__init__" "Hall.__init__" (defArgs s_init) (defBody s_init) (defScope s_init) .none kV doc pm an cdv ct) ⟨us, []⟩ = pure ((["self"] : List Str).zip us) := fun _ _ _ _ _ _ us hl => match us, hl with | [_], _ => rfl
theorem b_begin : ∀ (kV doc pm : Value) (an : Option Addr) (cdv ct : Value) (us : List Value), us.length = (["self", "sections"] : List Str).length → bindArgs (PySem.W.fnOf "begin" "Hall.begin" (defArgs s_begin) (defBody s_begin) (defScope s_begin) .none kV doc pm an cdv ct) ⟨us, []⟩ = pure ((["self", "sections"] : List Str).zip us) := fun _ _ _ _ _ _ us hl => match us, hl with | [_, _], _ => rfl
theorem b_put_ring : ∀ (kV doc pm : Value) (an : Option Addr) (cdv ct : Value) (us : List Value), us.length = (["self", "states"] : List Str).length → bindArgs (PySem.W.fnOf "put_ring" "Hall.put_ring" (defArgs s_put_ring) (defBody s_put_ring) (defScope s_put_ring) .none kV doc pm an cdv ct) ⟨us, []⟩ = pure ((["self", "states"] : List Str).zip us) := fun _ _ _ _ _ _ us hl => match us, hl with | [_, _], _ => rfl
theorem b_pass_steps : ∀ (kV doc pm : Value) (an : Option Addr) (cdv ct : Value) (us : List Value), us.length = (["self", "steps"] : List Str).length → bindArgs (PySem.W.fnOf "pass_steps" "Hall.pass_steps" (defArgs s_pass_steps) (defBody s_pass_steps) (defScope s_pass_steps) .none kV doc pm an cdv ct) ⟨us, []⟩ = pure ((["self", "steps"] : List Str).zip us) := fun _ _ _ _ _ _ us hl => match us, hl with | [_, _], _ => rfl
/-- what the top has written -/
structure Txt (K : PySem.W.Frag) (mg : Str → Option Value) (C : Addr) : Prop where
  cl : Cls K C
  mkc : PySem.W.makesIn K C = true
  kpc : PySem.W.keepIn K (.ref C) = true
  gC : mg "Hall" = some (.ref C)
  nS : NoAttr K C "states"
  nT : NoAttr K C "time"
  z_enumerate : mg "enumerate" = none
  z_len : mg "len" = none
  z_list : mg "list" = none
  z_max : mg "max" = none
  z_range : mg "range" = none
  c_CREATE : CR mg "CREATE" 0
  c_SET_SECTION : CR mg "SET_SECTION" 1
  c_SET_ALL : CR mg "SET_ALL" 2
  c_STAND_UP : CR mg "STAND_UP" 3
  c_START_WAVE : CR mg "START_WAVE" 4
  c_STEP : CR mg "STEP" 5
  c_ADVANCE : CR mg "ADVANCE" 6
  c_ROTATE : CR mg "ROTATE" 7
  c_MIRROR : CR mg "MIRROR" 8
  c_SIT_DOWN : CR mg "SIT_DOWN" 9
  c_GET_RING : CR mg "GET_RING" 10
  c_GET_SECTION : CR mg "GET_SECTION" 11
  c_RING_AFTER : CR mg "RING_AFTER" 12
  c_WINDING_NUMBER : CR mg "WINDING_NUMBER" 13
  c_STEPS_UNTIL_QUIET : CR mg "STEPS_UNTIL_QUIET" 14
  c_CYCLE : CR mg "CYCLE" 15
  c_FORWARD_WAVES : CR mg "FORWARD_WAVES" 16
  c_BACKWARD_WAVES : CR mg "BACKWARD_WAVES" 17
  c_STANDING_COUNT : CR mg "STANDING_COUNT" 18
  c_MAX_STANDING : CR mg "MAX_STANDING" 19
  c_FIRST_STANDING : CR mg "FIRST_STANDING" 20
  c_QUIET_IF_STAND_UP : CR mg "QUIET_IF_STAND_UP" 21
  c_NO_SECTION : CR mg "NO_SECTION" (-2)
  c_NO_SIMULATOR : CR mg "NO_SIMULATOR" (-11)
  c_NOT_SEATED : CR mg "NOT_SEATED" (-17)
  c_OUT_OF_RANGE : CR mg "OUT_OF_RANGE" (-22)
  c_NEVER : CR mg "NEVER" (-33)
  c_SEATED : CR mg "SEATED" 0
  c_STANDING : CR mg "STANDING" 1
  c_RESTING : CR mg "RESTING" 2
  c_STATES : CR mg "STATES" 3
  c_LEAST_SECTIONS : CR mg "LEAST_SECTIONS" 3
  c_MOST_SECTIONS : CR mg "MOST_SECTIONS" 12
  c_MOST_DIRECTION : CR mg "MOST_DIRECTION" 1
  c_MOST_STEPS : CR mg "MOST_STEPS" 40
  c_MOST_DISTANCE : CR mg "MOST_DISTANCE" 12
  c_TOWARDS_NEXT : CR mg "TOWARDS_NEXT" 0
  c_HORIZON : CR mg "HORIZON" 60
  v_SIZES : ∃ a, mg "SIZES" = some (.ref a) ∧ ∀ H, SqT K H a (vNs [1, 2, 0, 1, 2, 0, 1, 1, 0, 0, 0, 1, 1, 0, 0, 0, 0, 0, 0, 0, 1, 1, 0])
  d_section_after : DR K mg "section_after" s_section_after ["count", "section"]
  d_section_before : DR K mg "section_before" s_section_before ["count", "section"]
  d_state_after_step : DR K mg "state_after_step" s_state_after_step ["before", "state", "after"]
  d_stepped : DR K mg "stepped" s_stepped ["states"]
  d_after_steps : DR K mg "after_steps" s_after_steps ["states", "steps"]
  d_with_state : DR K mg "with_state" s_with_state ["states", "section", "state"]
  d_rotated : DR K mg "rotated" s_rotated ["states", "distance"]
  d_mirrored : DR K mg "mirrored" s_mirrored ["states"]
  d_seated_ring : DR K mg "seated_ring" s_seated_ring ["count"]
  d_count_state : DR K mg "count_state" s_count_state ["states", "state"]
  d_count_standing : DR K mg "count_standing" s_count_standing ["states"]
  d_is_quiet : DR K mg "is_quiet" s_is_quiet ["states"]
  d_phase_difference : DR K mg "phase_difference" s_phase_difference ["one", "other"]
  d_phase_sum : DR K mg "phase_sum" s_phase_sum ["states"]
  d_winding_of : DR K mg "winding_of" s_winding_of ["states"]
  d_standing_between : DR K mg "standing_between" s_standing_between ["states", "before", "after"]
  d_forward_in : DR K mg "forward_in" s_forward_in ["states"]
  d_backward_in : DR K mg "backward_in" s_backward_in ["states"]
  d_create : DR K mg "create" s_create ["hall", "sections"]
  d_set_section : DR K mg "set_section" s_set_section ["hall", "section", "state"]
  d_are_states : DR K mg "are_states" s_are_states ["states"]
  d_set_all : DR K mg "set_all" s_set_all ["hall", "states"]
  d_stand_up : DR K mg "stand_up" s_stand_up ["hall", "section"]
  d_is_free : DR K mg "is_free" s_is_free ["states", "section"]
  d_section_behind : DR K mg "section_behind" s_section_behind ["count", "section", "direction"]
  d_start_wave : DR K mg "start_wave" s_start_wave ["hall", "section", "direction"]
  d_step : DR K mg "step" s_step ["hall"]
  d_advance : DR K mg "advance" s_advance ["hall", "steps"]
  d_rotate : DR K mg "rotate" s_rotate ["hall", "distance"]
  d_mirror : DR K mg "mirror" s_mirror ["hall"]
  d_sit_down : DR K mg "sit_down" s_sit_down ["hall"]
  d_rings_ahead : DR K mg "rings_ahead" s_rings_ahead ["states"]
  d_quiet_time : DR K mg "quiet_time" s_quiet_time ["states"]
  d_standing_time : DR K mg "standing_time" s_standing_time ["states", "section"]
  d_most_standing : DR K mg "most_standing" s_most_standing ["states"]
  d_first_place : DR K mg "first_place" s_first_place ["rings", "ring"]
  d_first_repeat : DR K mg "first_repeat" s_first_repeat ["rings"]
  d_cycle_of : DR K mg "cycle_of" s_cycle_of ["states"]
  d_counted : DR K mg "counted" s_counted ["numbers"]
  d_get_ring : DR K mg "get_ring" s_get_ring ["hall"]
  d_get_section : DR K mg "get_section" s_get_section ["hall", "section"]
  d_ring_after : DR K mg "ring_after" s_ring_after ["hall", "steps"]
  d_winding_number : DR K mg "winding_number" s_winding_number ["hall"]
  d_steps_until_quiet : DR K mg "steps_until_quiet" s_steps_until_quiet ["hall"]
  d_cycle : DR K mg "cycle" s_cycle ["hall"]
  d_forward_waves : DR K mg "forward_waves" s_forward_waves ["hall"]
  d_backward_waves : DR K mg "backward_waves" s_backward_waves ["hall"]
  d_standing_count : DR K mg "standing_count" s_standing_count ["hall"]
  d_max_standing : DR K mg "max_standing" s_max_standing ["hall"]
  d_first_standing : DR K mg "first_standing" s_first_standing ["hall", "section"]
  d_quiet_if_stand_up : DR K mg "quiet_if_stand_up" s_quiet_if_stand_up ["hall", "section"]
  d_get_state : DR K mg "get_state" s_get_state ["hall"]
  d_first_number : DR K mg "first_number" s_first_number ["calls", "place"]
  d_end_of_call : DR K mg "end_of_call" s_end_of_call ["calls", "place"]
  d_numbers_of : DR K mg "numbers_of" s_numbers_of ["calls", "place"]
  d_answer_of_change : DR K mg "answer_of_change" s_answer_of_change ["hall", "operation", "numbers"]
  d_answer_of_query : DR K mg "answer_of_query" s_answer_of_query ["hall", "operation", "numbers"]
  d_answer_of : DR K mg "answer_of" s_answer_of ["hall", "operation", "numbers"]
  d_session_answers : DR K mg "session_answers" s_session_answers ["calls"]
  d_answers : DR K mg "answers" s_answers ["calls"]
  d_init : MR K C "__init__" "Hall.__init__" s_init ["self"]
  d_begin : MR K C "begin" "Hall.begin" s_begin ["self", "sections"]
  d_put_ring : MR K C "put_ring" "Hall.put_ring" s_put_ring ["self", "states"]
  d_pass_steps : MR K C "pass_steps" "Hall.pass_steps" s_pass_steps ["self", "steps"]
end Sw
/-! The defs of moves: each hands back what the specification's own function says. -/
namespace Sw
open PySem PySem.Spec PyProof.Rows L2 Evl
open Kv439 (Ring nextRing ringAfter stateAt previousState)

/-! ### lists that grow by one -/
def grown (f : Nat → Nat) (i : Nat) : List Nat := (List.range i).map f
theorem grown_succ (f : Nat → Nat) (i : Nat) : vNs (grown f i) ++ [vN (f i)] = vNs (grown f (i + 1)) := by
  unfold grown
  rw [List.range_succ, List.map_append, vNs_app]
  rfl
theorem grown_length (f : Nat → Nat) (i : Nat) : (vNs (grown f i)).length = i := by
  rw [vNs_length]
  unfold grown
  rw [List.length_map, List.length_range]
theorem get_stateAt {r : Ring} {i : Nat} (h : i < r.length) : r[i]? = some (stateAt r i) := by
  rw [stateAt_lt h, List.getElem?_eq_getElem h]
theorem get_stateMod {r : Ring} {i : Nat} (h : 0 < r.length) : r[i % r.length]? = some (stateAt r i) := by
  rw [get_stateAt (Nat.mod_lt _ h), stateAt_mod]

section
variable {P : Program} {w : World} {K : PySem.W.Frag} {mg : Str → Option Value} {base : Heap} {C : Addr}

/-! ### section_after, section_before -/
def sp_section_after : Sp := fun vs H Q _ => ∃ n i : Nat, vs = [vN n, vN i] ∧ 0 < n ∧ RetV (vN ((i + 1) % n)) H Q
theorem v_section_after {H : Hp} {n i : Nat} (h : 0 < n) : SpV sp_section_after [vN n, vN i] H (vN ((i + 1) % n)) := fun _ _ _ q _ => ⟨n, i, rfl, h, q⟩
theorem ok_section_after (T : Txt K mg C) : Ok P w K mg base 1 "section_after" ["count", "section"] sp_section_after := by
  refine T.d_section_after.ok sc_section_after (fun vs H Q E h => ?_) (fun f cdv A outer s H vs Q E hr h => ?_)
  · obtain ⟨n, i, rfl, _⟩ := h
    rfl
  · obtain ⟨n, i, rfl, hn, q⟩ := h
    refine ⟨_, (pss_one (ps_ret (pe_op op_mod (pe_op op_add (pv 1) pe_int) (pv 0)))), ?_⟩
    exact s_ret (ev_N (ev_mod (ev_add (ev_var rfl) ev_c) (ev_var rfl) (by omega)) (by rw [Int.natCast_emod]; rfl)) q
def sp_section_before : Sp := fun vs H Q _ => ∃ n i : Nat, vs = [vN n, vN i] ∧ 0 < n ∧ RetV (vN ((i + n - 1) % n)) H Q
theorem v_section_before {H : Hp} {n i : Nat} (h : 0 < n) : SpV sp_section_before [vN n, vN i] H (vN ((i + n - 1) % n)) := fun _ _ _ q _ => ⟨n, i, rfl, h, q⟩
theorem ok_section_before (T : Txt K mg C) : Ok P w K mg base 1 "section_before" ["count", "section"] sp_section_before := by
  refine T.d_section_before.ok sc_section_before (fun vs H Q E h => ?_) (fun f cdv A outer s H vs Q E hr h => ?_)
  · obtain ⟨n, i, rfl, _⟩ := h
    rfl
  · obtain ⟨n, i, rfl, hn, q⟩ := h
    refine ⟨_, (pss_one (ps_ret (pe_op op_mod (pe_op op_sub (pe_op op_add (pv 1) (pv 0)) pe_int) (pv 0)))), ?_⟩
    exact s_ret (ev_N (ev_mod (ev_sub (ev_add (ev_var rfl) (ev_var rfl)) ev_c) (ev_var rfl) (by omega)) (by
      rw [Int.natCast_emod]
      congr 1
      omega)) q
/-! ### state_after_step -/
def sp_state_after_step : Sp := fun vs H Q _ => ∃ b x a : Nat, vs = [vN b, vN x, vN a] ∧ RetV (vN (rule b x a)) H Q
theorem v_state_after_step {H : Hp} {b x a : Nat} : SpV sp_state_after_step [vN b, vN x, vN a] H (vN (rule b x a)) := fun _ _ _ q _ => ⟨b, x, a, rfl, q⟩
theorem ok_state_after_step (T : Txt K mg C) : Ok P w K mg base 1 "state_after_step" ["before", "state", "after"] sp_state_after_step := by
  refine T.d_state_after_step.ok sc_state_after_step (fun vs H Q E h => ?_) (fun f cdv A outer s H vs Q E hr h => ?_)
  · obtain ⟨b, x, a, rfl, _⟩ := h
    rfl
  · obtain ⟨b, x, a, rfl, q⟩ := h
    refine ⟨_, (pss_cons (ps_if (pt_cmpR op_eq (pv 1) (pe_con_ T.c_STANDING) (nomark _))
      (pss_one (ps_ret (pe_con_ T.c_RESTING))) pss_nil)
      (pss_cons (ps_if (pt_cmpR op_eq (pv 1) (pe_con_ T.c_RESTING) (nomark _))
      (pss_one (ps_ret (pe_con_ T.c_SEATED))) pss_nil)
      (pss_cons (ps_if (PW.pt (pw_or (pt_cmpR op_eq (pv 0) (pe_con_ T.c_STANDING) (nomark _)) (pw_or1 (pt_cmpR op_eq (pv 2) (pe_con_ T.c_STANDING) (nomark _)))))
      (pss_one (ps_ret (pe_con_ T.c_STANDING))) pss_nil)
      (pss_one (ps_ret (pe_con_ T.c_SEATED)))))), ?_⟩
    unfold rule at q
    refine q_when (et_eq (m := x) (n := 1) (ev_var rfl) ev_c) (fun c H1 e1 => ?_) fun c H1 e1 => ?_
    · rw [if_pos (of_decide_eq_true c)] at q
      exact s_ret ev_c fun H2 e2 => q H2 (e1.trans e2)
    rw [if_neg (of_decide_eq_false c)] at q
    refine q_when (et_eq (m := x) (n := 2) (ev_var rfl) ev_c) (fun c H2 e2 => ?_) fun c H2 e2 => ?_
    · rw [if_pos (of_decide_eq_true c)] at q
      exact s_ret ev_c fun H3 e3 => q H3 ((e1.trans e2).trans e3)
    rw [if_neg (of_decide_eq_false c)] at q
    refine q_when (et_or (et_eq (m := b) (n := 1) (ev_var rfl) ev_c) fun _ => et_eq (m := a) (n := 1) (ev_var rfl) ev_c) (fun c H3 e3 => ?_) fun c H3 e3 => ?_
    · rw [Bool.or_eq_true, decide_eq_true_eq, decide_eq_true_eq] at c
      rw [if_pos c.symm] at q
      exact s_ret ev_c fun H4 e4 => q H4 (((e1.trans e2).trans e3).trans e4)
    · rw [Bool.or_eq_false_iff, decide_eq_false_iff_not, decide_eq_false_iff_not] at c
      rw [if_neg (fun z => z.elim c.2 c.1)] at q
      exact s_ret ev_c fun H4 e4 => q H4 (((e1.trans e2).trans e3).trans e4)
/-! ### stepped -/
def stepAt (r : Ring) (i : Nat) : Nat := rule (previousState r i) (stateAt r i) (stateAt r (i + 1))
theorem grown_step (r : Ring) : grown (stepAt r) r.length = nextRing r := rfl
def sp_stepped (K : PySem.W.Frag) : Sp := fun vs H Q _ => ∃ (a : Addr) (r : Ring), vs = [.ref a] ∧ SqL K H a (vNs r) ∧ r.length ≤ 1000 ∧ RetL (vNs (nextRing r)) H Q
theorem l_stepped {H : Hp} {a : Addr} {r : Ring} (h : SqL K H a (vNs r)) (hl : r.length ≤ 1000) : SpL (sp_stepped K) [.ref a] H (vNs (nextRing r)) := fun _ e _ q _ => ⟨a, r, rfl, ex_l e h, hl, q⟩
theorem ok_stepped (T : Txt K mg C) : Ok P w K mg base 2 "stepped" ["states"] (sp_stepped K) := by
  refine T.d_stepped.ok sc_stepped (fun vs H Q E h => ?_) (fun f cdv A outer s H vs Q E hr h => ?_)
  · obtain ⟨a, r, rfl, _⟩ := h
    rfl
  · obtain ⟨a, r, rfl, hS, hl, q⟩ := h
    refine ⟨_, (pss_cons (ps_set (i := 1) sc_stepped.nd rfl (Or.inl rfl) (pe_callB call_len_seq (by rfl) T.z_len PySem.boot_len (pa_cons (pv 0) pa_nil)))
      (pss_cons (ps_set (i := 2) sc_stepped.nd rfl (Or.inl rfl) (pe_lst pa_nil))
      (pss_cons (ps_for PassesOwn.never rfl (pi_range1 (by rfl) T.z_range (pa_cons (pv 1) pa_nil)) (pg_name (i := 3) sc_stepped.nd rfl (Or.inl rfl))
      (pss_cons (ps_set (i := 4) sc_stepped.nd rfl (Or.inl rfl) (pe_ix ix_list (pv 0) (pe_ok (ok_section_before T) (hr.mono (by decide)) (pa_cons (pv 1) (pa_cons (pv 3) pa_nil))) (fun _ _ => rfl)))
      (pss_cons (ps_set (i := 5) sc_stepped.nd rfl (Or.inl rfl) (pe_ix ix_list (pv 0) (pe_ok (ok_section_after T) (hr.mono (by decide)) (pa_cons (pv 1) (pa_cons (pv 3) pa_nil))) (fun _ _ => rfl)))
      (pss_one (ps_expr (pe_bm PySem.F.plainAttrs_list PySem.F.slot_list_append PySem.F.type_list_append mt_append (pv 2) (pa_cons (pe_ok (ok_state_after_step T) (hr.mono (by decide)) (pa_cons (pv 4) (pa_cons (pe_ix ix_list (pv 0) (pv 3) (fun _ _ => rfl)) (pa_cons (pv 5) pa_nil)))) pa_nil)))))))
      (pss_one (ps_ret (pv 2)))))), ?_⟩
    refine q_asg (ev_lenR (ev_var rfl) hS) fun H1 e1 => ?_
    refine q_asgL el_nil fun p H2 hp e2 h2 => ?_
    have hp0 : H p = none := fresh_back e1 hp
    refine q_forR1 (n := (r.length : Int)) (ea_cons (ev_var rfl) ea_nil) (by omega)
      (fun i σ' H' => ∃ v4 v5 v6 : Option V, σ' = [some (.ref a), some (vN r.length), some (.ref p), v4, v5, v6] ∧ Ex H H' ∧ H' p = some (.lst (vNs (grown (stepAt r) i))))
      (fun H3 e3 => ⟨none, none, none, rfl, (e1.trans e2).trans e3, e3 _ _ h2⟩) (fun i σ' H3 hi p3 => ?_) (fun σ' H3 p3 => ?_)
    · obtain ⟨v4, v5, v6, rfl, e3, h3⟩ := p3
      have hi' : i < r.length := by omega
      have hn : 0 < r.length := by omega
      refine q_asg (ev_ixN (ev_var rfl) (ev_call (ea_cons (ev_var rfl) (ea_cons (ev_var rfl) ea_nil)) (v_section_before hn)) (ex_l e3 hS) (get_stateMod hn)) fun H4 e4 => ?_
      refine q_asg (ev_ixN (ev_var rfl) (ev_call (ea_cons (ev_var rfl) (ea_cons (ev_var rfl) ea_nil)) (v_section_after hn)) (ex_l (e3.trans e4) hS) (get_stateMod hn)) fun H5 e5 => ?_
      have e35 := (e3.trans e4).trans e5
      refine s_app (xs := vNs (grown (stepAt r) i)) ((e4.trans e5) _ _ h3) (ev_var rfl) (ev_call (ea_cons (ev_var rfl) (ea_cons (ev_ixN (ev_var rfl) (ev_var rfl) (ex_l e35 hS) (get_stateAt hi')) (ea_cons (ev_var rfl) ea_nil))) v_state_after_step)
        (by rw [grown_length]; omega) fun H6 e6 => ?_
      refine ⟨_, _, _, rfl, Ex.mut (e35.trans e6) hp0, ?_⟩
      rw [upd_same, ← grown_succ]
      rfl
    · obtain ⟨v4, v5, v6, rfl, e3, h3⟩ := p3
      rw [Int.toNat_natCast, grown_step] at h3
      exact s_ret (ev_var rfl) fun H4 e4 => q p H4 hp0 (e3.trans e4) (e4 _ _ h3)
/-! ### after_steps -/
def sp_after_steps (K : PySem.W.Frag) : Sp := fun vs H Q _ => ∃ (a : Addr) (r : Ring) (k : Nat), vs = [.ref a, vN k] ∧ SqL K H a (vNs r) ∧ r.length ≤ 1000 ∧ k ≤ 1000 ∧ RetL (vNs (ringAfter r k)) H Q
theorem l_after_steps {H : Hp} {a : Addr} {r : Ring} {k : Nat} (h : SqL K H a (vNs r)) (hl : r.length ≤ 1000) (hk : k ≤ 1000) : SpL (sp_after_steps K) [.ref a, vN k] H (vNs (ringAfter r k)) := fun _ e _ q _ => ⟨a, r, k, rfl, ex_l e h, hl, hk, q⟩
theorem ok_after_steps (T : Txt K mg C) : Ok P w K mg base 3 "after_steps" ["states", "steps"] (sp_after_steps K) := by
  refine T.d_after_steps.ok sc_after_steps (fun vs H Q E h => ?_) (fun f cdv A outer s H vs Q E hr h => ?_)
  · obtain ⟨a, r, k, rfl, _⟩ := h
    rfl
  · obtain ⟨a, r, k, rfl, hS, hl, hk, q⟩ := h
    refine ⟨_, (pss_cons (ps_set (i := 2) sc_after_steps.nd rfl (Or.inl rfl) (pe_callTy call_list_of (by rfl) T.z_list boot_list (pa_cons (pv 0) pa_nil)))
      (pss_cons (ps_for PassesOwn.never rfl (pi_range1 (by rfl) T.z_range (pa_cons (pv 1) pa_nil)) (pg_name (i := 3) sc_after_steps.nd rfl (Or.inl rfl))
      (pss_one (ps_set (i := 2) sc_after_steps.nd rfl (Or.inl rfl) (pe_ok (ok_stepped T) (hr.mono (by decide)) (pa_cons (pv 2) pa_nil)))))
      (pss_one (ps_ret (pv 2))))), ?_⟩
    refine q_asgL (el_list (ev_var rfl) hS) fun p H1 hp e1 h1 => ?_
    refine q_forR1 (n := (k : Int)) (ea_cons (ev_var rfl) ea_nil) (by omega)
      (fun i σ' H' => ∃ (p : Addr) (v3 : Option V), σ' = [some (.ref a), some (vN k), some (.ref p), v3] ∧ Ex H H' ∧ H p = none ∧ H' p = some (.lst (vNs (ringAfter r i))))
      (fun H2 e2 => ⟨p, none, rfl, e1.trans e2, hp, e2 _ _ h1⟩) (fun i σ' H2 hi p2 => ?_) (fun σ' H2 p2 => ?_)
    · obtain ⟨p, v3, rfl, e2, hp, h2⟩ := p2
      refine s_asgL (el_call (ea_cons (ev_var rfl) ea_nil) (l_stepped (sq_of h2) (by rw [ringAfter_length]; exact hl))) fun p' H3 hp' e3 h3 => ?_
      exact ⟨p', _, rfl, e2.trans e3, fresh_back e2 hp', by rw [ringAfter_succ]; exact h3⟩
    · obtain ⟨p, v3, rfl, e2, hp, h2⟩ := p2
      rw [Int.toNat_natCast] at h2
      exact s_ret (ev_var rfl) fun H4 e4 => q p H4 hp (e2.trans e4) (e4 _ _ h2)
/-! ### with_state -/
def sp_with_state (K : PySem.W.Frag) : Sp := fun vs H Q _ => ∃ (a : Addr) (r : Ring) (i x : Nat), vs = [.ref a, vN i, vN x] ∧ SqL K H a (vNs r) ∧ i < r.length ∧ RetL (vNs (r.set i x)) H Q
theorem l_with_state {H : Hp} {a : Addr} {r : Ring} {i x : Nat} (h : SqL K H a (vNs r)) (hi : i < r.length) : SpL (sp_with_state K) [.ref a, vN i, vN x] H (vNs (r.set i x)) := fun _ e _ q _ => ⟨a, r, i, x, rfl, ex_l e h, hi, q⟩
theorem ok_with_state (T : Txt K mg C) : Ok P w K mg base 1 "with_state" ["states", "section", "state"] (sp_with_state K) := by
  refine T.d_with_state.ok sc_with_state (fun vs H Q E h => ?_) (fun f cdv A outer s H vs Q E hr h => ?_)
  · obtain ⟨a, r, i, x, rfl, _⟩ := h
    rfl
  · obtain ⟨a, r, i, x, rfl, hS, hi, q⟩ := h
    refine ⟨_, (pss_cons (ps_set (i := 3) sc_with_state.nd rfl (Or.inl rfl) (pe_callTy call_list_of (by rfl) T.z_list boot_list (pa_cons (pv 0) pa_nil)))
      (pss_cons (ps_asg (pv 2) (pg_sub (pv 3) (pv 1) set_list))
      (pss_one (ps_ret (pv 3))))), ?_⟩
    refine q_asgL (el_list (ev_var rfl) hS) fun p H1 hp e1 h1 => ?_
    refine q_setL (v := vN x) (j := i) h1 (ev_var rfl) (ev_var rfl) (ev_var rfl) (by rw [vNs_length]; exact hi) fun H2 e2 => ?_
    refine s_ret (ev_var rfl) fun H3 e3 => q p H3 hp ((Ex.mut (e1.trans e2) hp).trans e3) (e3 _ _ ?_)
    rw [upd_same, vNs_set]
/-! ### rotated -/
def sp_rotated (K : PySem.W.Frag) : Sp := fun vs H Q _ => ∃ (a : Addr) (r : Ring) (d : Nat), vs = [.ref a, vN d] ∧ SqL K H a (vNs r) ∧ r.length ≤ 1000 ∧ RetL (vNs (Kv439.rotated r d)) H Q
theorem l_rotated {H : Hp} {a : Addr} {r : Ring} {d : Nat} (h : SqL K H a (vNs r)) (hl : r.length ≤ 1000) : SpL (sp_rotated K) [.ref a, vN d] H (vNs (Kv439.rotated r d)) := fun _ e _ q _ => ⟨a, r, d, rfl, ex_l e h, hl, q⟩
theorem ok_rotated (T : Txt K mg C) : Ok P w K mg base 1 "rotated" ["states", "distance"] (sp_rotated K) := by
  refine T.d_rotated.ok sc_rotated (fun vs H Q E h => ?_) (fun f cdv A outer s H vs Q E hr h => ?_)
  · obtain ⟨a, r, d, rfl, _⟩ := h
    rfl
  · obtain ⟨a, r, d, rfl, hS, hl, q⟩ := h
    refine ⟨_, (pss_cons (ps_set (i := 2) sc_rotated.nd rfl (Or.inl rfl) (pe_callB call_len_seq (by rfl) T.z_len PySem.boot_len (pa_cons (pv 0) pa_nil)))
      (pss_cons (ps_set (i := 3) sc_rotated.nd rfl (Or.inl rfl) (pe_lst pa_nil))
      (pss_cons (ps_for PassesOwn.never rfl (pi_range1 (by rfl) T.z_range (pa_cons (pv 2) pa_nil)) (pg_name (i := 4) sc_rotated.nd rfl (Or.inl rfl))
      (pss_one (ps_expr (pe_bm PySem.F.plainAttrs_list PySem.F.slot_list_append PySem.F.type_list_append mt_append (pv 3) (pa_cons (pe_ix ix_list (pv 0) (pe_op op_mod (pe_op op_add (pv 4) (pv 1)) (pv 2)) (fun _ _ => rfl)) pa_nil)))))
      (pss_one (ps_ret (pv 3)))))), ?_⟩
    refine q_asg (ev_lenR (ev_var rfl) hS) fun H1 e1 => ?_
    refine q_asgL el_nil fun p H2 hp e2 h2 => ?_
    have hp0 : H p = none := fresh_back e1 hp
    refine q_forR1 (n := (r.length : Int)) (ea_cons (ev_var rfl) ea_nil) (by omega)
      (fun i σ' H' => ∃ v4 : Option V, σ' = [some (.ref a), some (vN d), some (vN r.length), some (.ref p), v4] ∧ Ex H H' ∧ H' p = some (.lst (vNs (grown (fun i => stateAt r (i + d)) i))))
      (fun H3 e3 => ⟨none, rfl, (e1.trans e2).trans e3, e3 _ _ h2⟩) (fun i σ' H3 hi p3 => ?_) (fun σ' H3 p3 => ?_)
    · obtain ⟨v4, rfl, e3, h3⟩ := p3
      have hn : 0 < r.length := by omega
      refine s_app (xs := vNs (grown (fun i => stateAt r (i + d)) i)) h3 (ev_var rfl) (ev_ixN (ev_var rfl) (ev_N (n := (i + d) % r.length) (ev_mod (ev_add (ev_var rfl) (ev_var rfl)) (ev_var rfl) (by omega)) (by rw [Int.natCast_emod]; rfl)) (ex_l e3 hS) (get_stateMod hn))
        (by rw [grown_length]; omega) fun H6 e6 => ?_
      refine ⟨_, rfl, Ex.mut (e3.trans e6) hp0, ?_⟩
      rw [upd_same, ← grown_succ]
    · obtain ⟨v4, rfl, e3, h3⟩ := p3
      rw [Int.toNat_natCast] at h3
      exact s_ret (ev_var rfl) fun H4 e4 => q p H4 hp0 (e3.trans e4) (e4 _ _ h3)
/-! ### mirrored -/
theorem grown_mirror (r : Ring) : grown (fun i => stateAt r (r.length - 1 - i)) r.length = r.reverse := by
  unfold grown
  refine List.ext_getElem (by simp) fun i h1 h2 => ?_
  rw [List.getElem_map, List.getElem_range, List.getElem_reverse]
  rw [List.length_map, List.length_range] at h1
  exact stateAt_lt (by omega)
def sp_mirrored (K : PySem.W.Frag) : Sp := fun vs H Q _ => ∃ (a : Addr) (r : Ring), vs = [.ref a] ∧ SqL K H a (vNs r) ∧ r.length ≤ 1000 ∧ RetL (vNs r.reverse) H Q
theorem l_mirrored {H : Hp} {a : Addr} {r : Ring} (h : SqL K H a (vNs r)) (hl : r.length ≤ 1000) : SpL (sp_mirrored K) [.ref a] H (vNs r.reverse) := fun _ e _ q _ => ⟨a, r, rfl, ex_l e h, hl, q⟩
theorem ok_mirrored (T : Txt K mg C) : Ok P w K mg base 1 "mirrored" ["states"] (sp_mirrored K) := by
  refine T.d_mirrored.ok sc_mirrored (fun vs H Q E h => ?_) (fun f cdv A outer s H vs Q E hr h => ?_)
  · obtain ⟨a, r, rfl, _⟩ := h
    rfl
  · obtain ⟨a, r, rfl, hS, hl, q⟩ := h
    refine ⟨_, (pss_cons (ps_set (i := 1) sc_mirrored.nd rfl (Or.inl rfl) (pe_callB call_len_seq (by rfl) T.z_len PySem.boot_len (pa_cons (pv 0) pa_nil)))
      (pss_cons (ps_set (i := 2) sc_mirrored.nd rfl (Or.inl rfl) (pe_lst pa_nil))
      (pss_cons (ps_for PassesOwn.never rfl (pi_range1 (by rfl) T.z_range (pa_cons (pv 1) pa_nil)) (pg_name (i := 3) sc_mirrored.nd rfl (Or.inl rfl))
      (pss_one (ps_expr (pe_bm PySem.F.plainAttrs_list PySem.F.slot_list_append PySem.F.type_list_append mt_append (pv 2) (pa_cons (pe_ix ix_list (pv 0) (pe_op op_sub (pe_op op_sub (pv 1) pe_int) (pv 3)) (fun _ _ => rfl)) pa_nil)))))
      (pss_one (ps_ret (pv 2)))))), ?_⟩
    refine q_asg (ev_lenR (ev_var rfl) hS) fun H1 e1 => ?_
    refine q_asgL el_nil fun p H2 hp e2 h2 => ?_
    have hp0 : H p = none := fresh_back e1 hp
    refine q_forR1 (n := (r.length : Int)) (ea_cons (ev_var rfl) ea_nil) (by omega)
      (fun i σ' H' => ∃ v4 : Option V, σ' = [some (.ref a), some (vN r.length), some (.ref p), v4] ∧ Ex H H' ∧ H' p = some (.lst (vNs (grown (fun i => stateAt r (r.length - 1 - i)) i))))
      (fun H3 e3 => ⟨none, rfl, (e1.trans e2).trans e3, e3 _ _ h2⟩) (fun i σ' H3 hi p3 => ?_) (fun σ' H3 p3 => ?_)
    · obtain ⟨v4, rfl, e3, h3⟩ := p3
      refine s_app (xs := vNs (grown (fun i => stateAt r (r.length - 1 - i)) i)) h3 (ev_var rfl) (ev_ixN (ev_var rfl) (ev_N (n := r.length - 1 - i) (ev_sub (ev_sub (ev_var rfl) ev_c) (ev_var rfl)) (by omega)) (ex_l e3 hS) (get_stateAt (by omega)))
        (by rw [grown_length]; omega) fun H6 e6 => ?_
      refine ⟨_, rfl, Ex.mut (e3.trans e6) hp0, ?_⟩
      rw [upd_same, ← grown_succ]
    · obtain ⟨v4, rfl, e3, h3⟩ := p3
      rw [Int.toNat_natCast, grown_mirror] at h3
      exact s_ret (ev_var rfl) fun H4 e4 => q p H4 hp0 (e3.trans e4) (e4 _ _ h3)
/-! ### seated_ring -/
theorem grown_seated (n : Nat) : grown (fun _ => 0) n = List.replicate n 0 := by
  unfold grown
  rw [List.map_const', List.length_range]
def sp_seated_ring : Sp := fun vs H Q _ => ∃ n : Nat, vs = [vN n] ∧ n ≤ 1000 ∧ RetL (vNs (List.replicate n 0)) H Q
theorem l_seated_ring {H : Hp} {n : Nat} (hn : n ≤ 1000) : SpL sp_seated_ring [vN n] H (vNs (List.replicate n 0)) := fun _ _ _ q _ => ⟨n, rfl, hn, q⟩
theorem ok_seated_ring (T : Txt K mg C) : Ok P w K mg base 1 "seated_ring" ["count"] sp_seated_ring := by
  refine T.d_seated_ring.ok sc_seated_ring (fun vs H Q E h => ?_) (fun f cdv A outer s H vs Q E hr h => ?_)
  · obtain ⟨n, rfl, _⟩ := h
    rfl
  · obtain ⟨n, rfl, hn, q⟩ := h
    refine ⟨_, (pss_cons (ps_set (i := 1) sc_seated_ring.nd rfl (Or.inl rfl) (pe_lst pa_nil))
      (pss_cons (ps_for PassesOwn.never rfl (pi_range1 (by rfl) T.z_range (pa_cons (pv 0) pa_nil)) (pg_name (i := 2) sc_seated_ring.nd rfl (Or.inl rfl))
      (pss_one (ps_expr (pe_bm PySem.F.plainAttrs_list PySem.F.slot_list_append PySem.F.type_list_append mt_append (pv 1) (pa_cons (pe_con_ T.c_SEATED) pa_nil)))))
      (pss_one (ps_ret (pv 1))))), ?_⟩
    refine q_asgL el_nil fun p H2 hp e2 h2 => ?_
    refine q_forR1 (n := (n : Int)) (ea_cons (ev_var rfl) ea_nil) (by omega)
      (fun i σ' H' => ∃ v4 : Option V, σ' = [some (vN n), some (.ref p), v4] ∧ Ex H H' ∧ H' p = some (.lst (vNs (grown (fun _ => 0) i))))
      (fun H3 e3 => ⟨none, rfl, e2.trans e3, e3 _ _ h2⟩) (fun i σ' H3 hi p3 => ?_) (fun σ' H3 p3 => ?_)
    · obtain ⟨v4, rfl, e3, h3⟩ := p3
      refine s_app (xs := vNs (grown (fun _ => 0) i)) (v := vN 0) h3 (ev_var rfl) ev_c (by rw [grown_length]; omega) fun H6 e6 => ?_
      refine ⟨_, rfl, Ex.mut (e3.trans e6) hp, ?_⟩
      rw [upd_same, ← grown_succ]
    · obtain ⟨v4, rfl, e3, h3⟩ := p3
      rw [Int.toNat_natCast, grown_seated] at h3
      exact s_ret (ev_var rfl) fun H4 e4 => q p H4 hp (e3.trans e4) (e4 _ _ h3)
end
end Sw
/-! The defs of views. -/
namespace Sw
open PySem PySem.Spec PyProof.Rows L2 Evl
open Kv439 (Ring nextRing ringAfter stateAt previousState phaseDifference windingNumber isQuiet standing forwardWaves backwardWaves)

/-! ### counts -/
def cnt (r : Ring) (s : Nat) : Nat := (r.filter fun x => x == s).length
theorem take_more {α : Type} {l : List α} {i : Nat} {x : α} (h : l[i]? = some x) : l.take (i + 1) = l.take i ++ [x] := by
  rw [List.take_add_one, h]
  rfl
theorem cnt_more {r : Ring} {i x : Nat} (s : Nat) (h : r[i]? = some x) : cnt (r.take (i + 1)) s = cnt (r.take i) s + if x = s then 1 else 0 := by
  unfold cnt
  rw [take_more h, List.filter_append, List.length_append]
  congr 1
  by_cases c : x = s
  · rw [if_pos c]
    simp [c]
  · rw [if_neg c]
    simp [c]
theorem cnt_quiet (r : Ring) : decide (cnt r 0 = r.length) = isQuiet r := by
  unfold cnt isQuiet
  rw [Bool.eq_iff_iff, decide_eq_true_eq, List.length_filter_eq_length_iff, List.all_eq_true]
theorem cnt_le (r : Ring) (s : Nat) : cnt r s ≤ r.length := List.length_filter_le ..
theorem cnt_rest (r : Ring) : r.length - cnt r 0 = (r.filter fun x => x != 0).length := by
  unfold cnt
  have e : ∀ l : List Nat, (l.filter fun x => x == 0).length + (l.filter fun x => x != 0).length = l.length := fun l => by
    induction l with
    | nil => rfl
    | cons a l ih =>
      by_cases c : a = 0
      · subst c
        simp
        omega
      · have c1 : (a == 0) = false := beq_eq_false_iff_ne.mpr c
        simp [c1, bne]
        simp [bne] at ih
        omega
  have := e r
  omega
/-! ### sums -/
def sumTo (f : Nat → Int) (i : Nat) : Int := ((List.range i).map f).sum
theorem sumTo_succ (f : Nat → Int) (i : Nat) : sumTo f (i + 1) = sumTo f i + f i := by
  unfold sumTo
  rw [List.range_succ, List.map_append, List.sum_append]
  simp
/-! ### filters -/
def keptTo (f : Nat → Bool) (i : Nat) : List Nat := (List.range i).filter f
theorem keptTo_succ (f : Nat → Bool) (i : Nat) : keptTo f (i + 1) = if f i = true then keptTo f i ++ [i] else keptTo f i := by
  unfold keptTo
  rw [List.range_succ, List.filter_append]
  by_cases c : f i = true
  · rw [if_pos c]
    simp [c]
  · rw [if_neg c]
    simp [c]
theorem keptTo_length (f : Nat → Bool) (i : Nat) : (vNs (keptTo f i)).length ≤ i := by
  rw [vNs_length]
  have h := List.length_filter_le f (List.range i)
  rw [List.length_range] at h
  exact h
def btw (r : Ring) (b a : Nat) (i : Nat) : Bool := decide (stateAt r i = 1) && (decide (previousState r i = b) && decide (stateAt r (i + 1) = a))
theorem btw_forward (r : Ring) : keptTo (btw r 2 0) r.length = forwardWaves r := by
  unfold keptTo forwardWaves
  congr 1
  funext i
  unfold btw
  rw [Bool.beq_eq_decide_eq, Bool.beq_eq_decide_eq, Bool.beq_eq_decide_eq, Bool.and_assoc, Bool.and_comm (decide (stateAt r (i + 1) = 0))]
theorem btw_backward (r : Ring) : keptTo (btw r 0 2) r.length = backwardWaves r := by
  unfold keptTo backwardWaves
  congr 1
  funext i
  unfold btw
  rw [Bool.beq_eq_decide_eq, Bool.beq_eq_decide_eq, Bool.beq_eq_decide_eq, Bool.and_assoc]

section
variable {P : Program} {w : World} {K : PySem.W.Frag} {mg : Str → Option Value} {base : Heap} {C : Addr}

/-! ### count_state -/
def sp_count_state (K : PySem.W.Frag) : Sp := fun vs H Q _ => ∃ (a : Addr) (r : Ring) (s : Nat), vs = [.ref a, vN s] ∧ SqL K H a (vNs r) ∧ RetV (vN (cnt r s)) H Q
theorem v_count_state {H : Hp} {a : Addr} {r : Ring} {s : Nat} (h : SqL K H a (vNs r)) : SpV (sp_count_state K) [.ref a, vN s] H (vN (cnt r s)) := fun _ e _ q _ => ⟨a, r, s, rfl, ex_l e h, q⟩
theorem ok_count_state (T : Txt K mg C) : Ok P w K mg base 1 "count_state" ["states", "state"] (sp_count_state K) := by
  refine T.d_count_state.ok sc_count_state (fun vs H Q E h => ?_) (fun f cdv A outer s H vs Q E hr h => ?_)
  · obtain ⟨a, r, s, rfl, _⟩ := h
    rfl
  · obtain ⟨a, r, s, rfl, hS, q⟩ := h
    refine ⟨_, (pss_cons (ps_set (i := 2) sc_count_state.nd rfl (Or.inl rfl) pe_int)
      (pss_cons (ps_for PassesOwn.never rfl (pi_list (pv 0)) (pg_name (i := 3) sc_count_state.nd rfl (Or.inl rfl))
      (pss_one (ps_if (pt_cmpR op_eq (pv 3) (pv 1) (nomark _))
      (pss_one (ps_set (i := 2) sc_count_state.nd rfl (Or.inl rfl) (pe_op op_add (pv 2) pe_int))) pss_nil)))
      (pss_one (ps_ret (pv 2))))), ?_⟩
    refine q_asg (v := vN 0) ev_c fun H1 e1 => ?_
    refine q_forLn (xs := vNs r) (ev_var rfl) (ex_l e1 hS) (fun i σ' H' => ∃ v3 : Option V, σ' = [some (.ref a), some (vN s), some (vN (cnt (r.take i) s)), v3] ∧ Ex H H')
      (fun H2 e2 => ⟨none, rfl, e1.trans e2⟩) (fun i σ' H' _ p => ?_) (fun i x σ' H2 hx p => ?_) (fun σ' H2 p => ?_)
    · obtain ⟨v3, _, e2⟩ := p
      exact ex_l e2 hS
    · obtain ⟨v3, rfl, e2⟩ := p
      obtain ⟨y, hy, rfl⟩ := vNs_of hx
      refine s_ifAsg (v := vN (cnt (r.take (i + 1)) s)) (et_eq (m := y) (n := s) (ev_var rfl) (ev_var rfl)) (fun c => ?_) (fun c => ?_) fun H3 e3 => ?_
      · refine ev_N (ev_add (ev_var rfl) ev_c) ?_
        rw [cnt_more s hy, if_pos (of_decide_eq_true c)]
        rfl
      · rw [cnt_more s hy, if_neg (of_decide_eq_false c)]
        rfl
      · exact ⟨_, rfl, e2.trans e3⟩
    · obtain ⟨v3, rfl, e2⟩ := p
      rw [vNs_length, List.take_length]
      exact s_ret (ev_var rfl) fun H3 e3 => q H3 (e2.trans e3)
/-! ### count_standing, is_quiet -/
def sp_count_standing (K : PySem.W.Frag) : Sp := fun vs H Q _ => ∃ (a : Addr) (r : Ring), vs = [.ref a] ∧ SqL K H a (vNs r) ∧ RetV (vN (standing r)) H Q
theorem v_count_standing {H : Hp} {a : Addr} {r : Ring} (h : SqL K H a (vNs r)) : SpV (sp_count_standing K) [.ref a] H (vN (standing r)) := fun _ e _ q _ => ⟨a, r, rfl, ex_l e h, q⟩
theorem ok_count_standing (T : Txt K mg C) : Ok P w K mg base 2 "count_standing" ["states"] (sp_count_standing K) := by
  refine T.d_count_standing.ok sc_count_standing (fun vs H Q E h => ?_) (fun f cdv A outer s H vs Q E hr h => ?_)
  · obtain ⟨a, r, rfl, _⟩ := h
    rfl
  · obtain ⟨a, r, rfl, hS, q⟩ := h
    refine ⟨_, (pss_one (ps_ret (pe_ok (ok_count_state T) (hr.mono (by decide)) (pa_cons (pv 0) (pa_cons (pe_con_ T.c_STANDING) pa_nil))))), ?_⟩
    exact s_ret (ev_call (ea_cons (ev_var rfl) (ea_cons ev_c ea_nil)) (v_count_state (s := 1) hS)) q
def sp_is_quiet (K : PySem.W.Frag) : Sp := fun vs H Q _ => ∃ (a : Addr) (r : Ring), vs = [.ref a] ∧ SqL K H a (vNs r) ∧ RetV (.bl (isQuiet r)) H Q
theorem v_is_quiet {H : Hp} {a : Addr} {r : Ring} (h : SqL K H a (vNs r)) : SpV (sp_is_quiet K) [.ref a] H (.bl (isQuiet r)) := fun _ e _ q _ => ⟨a, r, rfl, ex_l e h, q⟩
theorem ok_is_quiet (T : Txt K mg C) : Ok P w K mg base 2 "is_quiet" ["states"] (sp_is_quiet K) := by
  refine T.d_is_quiet.ok sc_is_quiet (fun vs H Q E h => ?_) (fun f cdv A outer s H vs Q E hr h => ?_)
  · obtain ⟨a, r, rfl, _⟩ := h
    rfl
  · obtain ⟨a, r, rfl, hS, q⟩ := h
    refine ⟨_, (pss_one (ps_ret (pe_cmpR op_eq (pe_ok (ok_count_state T) (hr.mono (by decide)) (pa_cons (pv 0) (pa_cons (pe_con_ T.c_SEATED) pa_nil))) (pe_callB call_len_seq (by rfl) T.z_len PySem.boot_len (pa_cons (pv 0) pa_nil)) (nomark _)))), ?_⟩
    exact s_ret (ev_is (ev_eqN (ev_call (ea_cons (ev_var rfl) (ea_cons ev_c ea_nil)) (v_count_state (s := 0) hS)) (ev_lenR (ev_var rfl) hS)) (by rw [cnt_quiet])) q
/-! ### phase_difference, phase_sum, winding_of -/
def sp_phase_difference : Sp := fun vs H Q _ => ∃ s t : Nat, vs = [vN s, vN t] ∧ RetV (.int (phaseDifference s t)) H Q
theorem v_phase_difference {H : Hp} {s t : Nat} : SpV sp_phase_difference [vN s, vN t] H (.int (phaseDifference s t)) := fun _ _ _ q _ => ⟨s, t, rfl, q⟩
theorem ok_phase_difference (T : Txt K mg C) : Ok P w K mg base 1 "phase_difference" ["one", "other"] sp_phase_difference := by
  refine T.d_phase_difference.ok sc_phase_difference (fun vs H Q E h => ?_) (fun f cdv A outer s H vs Q E hr h => ?_)
  · obtain ⟨s, t, rfl, _⟩ := h
    rfl
  · obtain ⟨s, t, rfl, q⟩ := h
    refine ⟨_, (pss_cons (ps_if (pt_cmpR op_eq (pv 1) (pe_op op_mod (pe_op op_add (pv 0) pe_int) (pe_con_ T.c_STATES)) (nomark _))
      (pss_one (ps_ret pe_int)) pss_nil)
      (pss_cons (ps_if (pt_cmpR op_eq (pv 0) (pe_op op_mod (pe_op op_add (pv 1) pe_int) (pe_con_ T.c_STATES)) (nomark _))
      (pss_one (ps_ret (pe_un un_neg pe_int))) pss_nil)
      (pss_one (ps_ret pe_int)))), ?_⟩
    unfold phaseDifference at q
    refine q_when (et_eq (m := t) (n := (s + 1) % 3) (ev_var rfl) (ev_N (ev_mod (ev_add (ev_var rfl) ev_c) ev_c (by decide)) (by rw [Int.natCast_emod]; rfl))) (fun c H1 e1 => ?_) fun c H1 e1 => ?_
    · rw [if_pos (of_decide_eq_true c)] at q
      exact s_ret ev_c fun H2 e2 => q H2 (e1.trans e2)
    rw [if_neg (of_decide_eq_false c)] at q
    refine q_when (et_eq (m := s) (n := (t + 1) % 3) (ev_var rfl) (ev_N (ev_mod (ev_add (ev_var rfl) ev_c) ev_c (by decide)) (by rw [Int.natCast_emod]; rfl))) (fun c H2 e2 => ?_) fun c H2 e2 => ?_
    · rw [if_pos (of_decide_eq_true c)] at q
      exact s_ret (ev_neg ev_c) fun H3 e3 => q H3 ((e1.trans e2).trans e3)
    rw [if_neg (of_decide_eq_false c)] at q
    exact s_ret ev_c fun H3 e3 => q H3 ((e1.trans e2).trans e3)
def phaseAt (r : Ring) (i : Nat) : Int := phaseDifference (stateAt r i) (stateAt r (i + 1))
def sp_phase_sum (K : PySem.W.Frag) : Sp := fun vs H Q _ => ∃ (a : Addr) (r : Ring), vs = [.ref a] ∧ SqL K H a (vNs r) ∧ r.length ≤ 1000 ∧ RetV (.int (sumTo (phaseAt r) r.length)) H Q
theorem v_phase_sum {H : Hp} {a : Addr} {r : Ring} (h : SqL K H a (vNs r)) (hl : r.length ≤ 1000) : SpV (sp_phase_sum K) [.ref a] H (.int (sumTo (phaseAt r) r.length)) := fun _ e _ q _ => ⟨a, r, rfl, ex_l e h, hl, q⟩
theorem ok_phase_sum (T : Txt K mg C) : Ok P w K mg base 2 "phase_sum" ["states"] (sp_phase_sum K) := by
  refine T.d_phase_sum.ok sc_phase_sum (fun vs H Q E h => ?_) (fun f cdv A outer s H vs Q E hr h => ?_)
  · obtain ⟨a, r, rfl, _⟩ := h
    rfl
  · obtain ⟨a, r, rfl, hS, hl, q⟩ := h
    refine ⟨_, (pss_cons (ps_set (i := 1) sc_phase_sum.nd rfl (Or.inl rfl) (pe_callB call_len_seq (by rfl) T.z_len PySem.boot_len (pa_cons (pv 0) pa_nil)))
      (pss_cons (ps_set (i := 2) sc_phase_sum.nd rfl (Or.inl rfl) pe_int)
      (pss_cons (ps_for PassesOwn.never rfl (pi_range1 (by rfl) T.z_range (pa_cons (pv 1) pa_nil)) (pg_name (i := 3) sc_phase_sum.nd rfl (Or.inl rfl))
      (pss_one (ps_set (i := 2) sc_phase_sum.nd rfl (Or.inl rfl) (pe_op op_add (pv 2) (pe_ok (ok_phase_difference T) (hr.mono (by decide)) (pa_cons (pe_ix ix_list (pv 0) (pv 3) (fun _ _ => rfl)) (pa_cons (pe_ix ix_list (pv 0) (pe_ok (ok_section_after T) (hr.mono (by decide)) (pa_cons (pv 1) (pa_cons (pv 3) pa_nil))) (fun _ _ => rfl)) pa_nil)))))))
      (pss_one (ps_ret (pv 2)))))), ?_⟩
    refine q_asg (ev_lenR (ev_var rfl) hS) fun H1 e1 => ?_
    refine q_asg (v := vN 0) ev_c fun H2 e2 => ?_
    refine q_forR1 (n := (r.length : Int)) (ea_cons (ev_var rfl) ea_nil) (by omega)
      (fun i σ' H' => ∃ v3 : Option V, σ' = [some (.ref a), some (vN r.length), some (.int (sumTo (phaseAt r) i)), v3] ∧ Ex H H')
      (fun H3 e3 => ⟨none, rfl, (e1.trans e2).trans e3⟩) (fun i σ' H3 hi p3 => ?_) (fun σ' H3 p3 => ?_)
    · obtain ⟨v3, rfl, e3⟩ := p3
      have hn : 0 < r.length := by omega
      refine s_asg (v := .int (sumTo (phaseAt r) (i + 1))) ?_ fun H4 e4 => ⟨_, rfl, e3.trans e4⟩
      refine ev_is (ev_add (ev_var rfl) (ev_call (ea_cons (ev_ixN (ev_var rfl) (ev_var rfl) (ex_l e3 hS) (get_stateAt (by omega)))
        (ea_cons (ev_ixN (ev_var rfl) (ev_call (ea_cons (ev_var rfl) (ea_cons (ev_var rfl) ea_nil)) (v_section_after hn)) (ex_l e3 hS) (get_stateMod hn)) ea_nil)) v_phase_difference)) ?_
      rw [sumTo_succ]
      rfl
    · obtain ⟨v3, rfl, e3⟩ := p3
      rw [Int.toNat_natCast]
      exact s_ret (ev_var rfl) fun H4 e4 => q H4 (e3.trans e4)
def sp_winding_of (K : PySem.W.Frag) : Sp := fun vs H Q _ => ∃ (a : Addr) (r : Ring), vs = [.ref a] ∧ SqL K H a (vNs r) ∧ r.length ≤ 1000 ∧ RetV (.int (windingNumber r)) H Q
theorem v_winding_of {H : Hp} {a : Addr} {r : Ring} (h : SqL K H a (vNs r)) (hl : r.length ≤ 1000) : SpV (sp_winding_of K) [.ref a] H (.int (windingNumber r)) := fun _ e _ q _ => ⟨a, r, rfl, ex_l e h, hl, q⟩
theorem ok_winding_of (T : Txt K mg C) : Ok P w K mg base 3 "winding_of" ["states"] (sp_winding_of K) := by
  refine T.d_winding_of.ok sc_winding_of (fun vs H Q E h => ?_) (fun f cdv A outer s H vs Q E hr h => ?_)
  · obtain ⟨a, r, rfl, _⟩ := h
    rfl
  · obtain ⟨a, r, rfl, hS, hl, q⟩ := h
    refine ⟨_, (pss_one (ps_ret (pe_op op_fdiv (pe_ok (ok_phase_sum T) (hr.mono (by decide)) (pa_cons (pv 0) pa_nil)) (pe_con_ T.c_STATES)))), ?_⟩
    exact s_ret (ev_fdiv (ev_call (ea_cons (ev_var rfl) ea_nil) (v_phase_sum hS hl)) ev_c ⟨by decide, by decide⟩) q
/-! ### standing_between, forward_in, backward_in -/
def sp_standing_between (K : PySem.W.Frag) : Sp := fun vs H Q _ => ∃ (a : Addr) (r : Ring) (b c : Nat), vs = [.ref a, vN b, vN c] ∧ SqL K H a (vNs r) ∧ r.length ≤ 1000 ∧ RetL (vNs (keptTo (btw r b c) r.length)) H Q
theorem l_standing_between {H : Hp} {a : Addr} {r : Ring} {b c : Nat} (h : SqL K H a (vNs r)) (hl : r.length ≤ 1000) : SpL (sp_standing_between K) [.ref a, vN b, vN c] H (vNs (keptTo (btw r b c) r.length)) := fun _ e _ q _ => ⟨a, r, b, c, rfl, ex_l e h, hl, q⟩
theorem ok_standing_between (T : Txt K mg C) : Ok P w K mg base 2 "standing_between" ["states", "before", "after"] (sp_standing_between K) := by
  refine T.d_standing_between.ok sc_standing_between (fun vs H Q E h => ?_) (fun f cdv A outer s H vs Q E hr h => ?_)
  · obtain ⟨a, r, b, c, rfl, _⟩ := h
    rfl
  · obtain ⟨a, r, b, c, rfl, hS, hl, q⟩ := h
    refine ⟨_, (pss_cons (ps_set (i := 3) sc_standing_between.nd rfl (Or.inl rfl) (pe_callB call_len_seq (by rfl) T.z_len PySem.boot_len (pa_cons (pv 0) pa_nil)))
      (pss_cons (ps_set (i := 4) sc_standing_between.nd rfl (Or.inl rfl) (pe_lst pa_nil))
      (pss_cons (ps_for PassesOwn.never rfl (pi_range1 (by rfl) T.z_range (pa_cons (pv 3) pa_nil)) (pg_name (i := 5) sc_standing_between.nd rfl (Or.inl rfl))
      (pss_cons (ps_set (i := 6) sc_standing_between.nd rfl (Or.inl rfl) (pe_cmpR op_eq (pe_ix ix_list (pv 0) (pe_ok (ok_section_before T) (hr.mono (by decide)) (pa_cons (pv 3) (pa_cons (pv 5) pa_nil))) (fun _ _ => rfl)) (pv 1) (nomark _)))
      (pss_cons (ps_set (i := 7) sc_standing_between.nd rfl (Or.inl rfl) (pe_cmpR op_eq (pe_ix ix_list (pv 0) (pe_ok (ok_section_after T) (hr.mono (by decide)) (pa_cons (pv 3) (pa_cons (pv 5) pa_nil))) (fun _ _ => rfl)) (pv 2) (nomark _)))
      (pss_one (ps_if (PW.pt (pw_and (pt_cmpR op_eq (pe_ix ix_list (pv 0) (pv 5) (fun _ _ => rfl)) (pe_con_ T.c_STANDING) (nomark _)) (pw_and (pt_val (pv 6)) (pw_and1 (pt_val (pv 7))))))
      (pss_one (ps_expr (pe_bm PySem.F.plainAttrs_list PySem.F.slot_list_append PySem.F.type_list_append mt_append (pv 4) (pa_cons (pv 5) pa_nil)))) pss_nil)))))
      (pss_one (ps_ret (pv 4)))))), ?_⟩
    refine q_asg (ev_lenR (ev_var rfl) hS) fun H1 e1 => ?_
    refine q_asgL el_nil fun p H2 hp e2 h2 => ?_
    have hp0 : H p = none := fresh_back e1 hp
    refine q_forR1 (n := (r.length : Int)) (ea_cons (ev_var rfl) ea_nil) (by omega)
      (fun i σ' H' => ∃ v5 v6 v7 : Option V, σ' = [some (.ref a), some (vN b), some (vN c), some (vN r.length), some (.ref p), v5, v6, v7] ∧ Ex H H' ∧ H' p = some (.lst (vNs (keptTo (btw r b c) i))))
      (fun H3 e3 => ⟨none, none, none, rfl, (e1.trans e2).trans e3, e3 _ _ h2⟩) (fun i σ' H3 hi p3 => ?_) (fun σ' H3 p3 => ?_)
    · obtain ⟨v5, v6, v7, rfl, e3, h3⟩ := p3
      have hi' : i < r.length := by omega
      have hn : 0 < r.length := by omega
      refine q_asg (ev_eqN (ev_ixN (ev_var rfl) (ev_call (ea_cons (ev_var rfl) (ea_cons (ev_var rfl) ea_nil)) (v_section_before hn)) (ex_l e3 hS) (get_stateMod hn)) (ev_var rfl)) fun H4 e4 => ?_
      refine q_asg (ev_eqN (ev_ixN (ev_var rfl) (ev_call (ea_cons (ev_var rfl) (ea_cons (ev_var rfl) ea_nil)) (v_section_after hn)) (ex_l (e3.trans e4) hS) (get_stateMod hn)) (ev_var rfl)) fun H5 e5 => ?_
      have e35 := (e3.trans e4).trans e5
      refine s_when (b := btw r b c i) (et_and (et_eq (m := stateAt r i) (n := 1) (ev_ixN (ev_var rfl) (ev_var rfl) (ex_l e35 hS) (get_stateAt hi')) ev_c)
        fun _ => et_and (et_B (ev_var rfl)) fun _ => et_B (ev_var rfl)) (fun z H6 e6 => ?_) fun z H6 e6 => ?_
      · refine s_app (xs := vNs (keptTo (btw r b c) i)) (v := vN i) (((e4.trans e5).trans e6) _ _ h3) (ev_var rfl) (ev_var rfl) (by have := keptTo_length (btw r b c) i; omega) fun H7 e7 => ?_
        refine ⟨_, _, _, rfl, Ex.mut ((e35.trans e6).trans e7) hp0, ?_⟩
        rw [upd_same, keptTo_succ, if_pos z, vNs_app]
        rfl
      · refine ⟨_, _, _, rfl, e35.trans e6, ?_⟩
        rw [keptTo_succ, if_neg (by rw [z]; exact Bool.false_ne_true)]
        exact ((e4.trans e5).trans e6) _ _ h3
    · obtain ⟨v5, v6, v7, rfl, e3, h3⟩ := p3
      rw [Int.toNat_natCast] at h3
      exact s_ret (ev_var rfl) fun H4 e4 => q p H4 hp0 (e3.trans e4) (e4 _ _ h3)
def sp_forward_in (K : PySem.W.Frag) : Sp := fun vs H Q _ => ∃ (a : Addr) (r : Ring), vs = [.ref a] ∧ SqL K H a (vNs r) ∧ r.length ≤ 1000 ∧ RetL (vNs (forwardWaves r)) H Q
theorem l_forward_in {H : Hp} {a : Addr} {r : Ring} (h : SqL K H a (vNs r)) (hl : r.length ≤ 1000) : SpL (sp_forward_in K) [.ref a] H (vNs (forwardWaves r)) := fun _ e _ q _ => ⟨a, r, rfl, ex_l e h, hl, q⟩
theorem ok_forward_in (T : Txt K mg C) : Ok P w K mg base 3 "forward_in" ["states"] (sp_forward_in K) := by
  refine T.d_forward_in.ok sc_forward_in (fun vs H Q E h => ?_) (fun f cdv A outer s H vs Q E hr h => ?_)
  · obtain ⟨a, r, rfl, _⟩ := h
    rfl
  · obtain ⟨a, r, rfl, hS, hl, q⟩ := h
    refine ⟨_, (pss_one (ps_ret (pe_ok (ok_standing_between T) (hr.mono (by decide)) (pa_cons (pv 0) (pa_cons (pe_con_ T.c_RESTING) (pa_cons (pe_con_ T.c_SEATED) pa_nil)))))), ?_⟩
    exact s_retL (el_is (el_call (ea_cons (ev_var rfl) (ea_cons ev_c (ea_cons ev_c ea_nil))) (l_standing_between (b := 2) (c := 0) hS hl)) (by rw [btw_forward])) q
def sp_backward_in (K : PySem.W.Frag) : Sp := fun vs H Q _ => ∃ (a : Addr) (r : Ring), vs = [.ref a] ∧ SqL K H a (vNs r) ∧ r.length ≤ 1000 ∧ RetL (vNs (backwardWaves r)) H Q
theorem l_backward_in {H : Hp} {a : Addr} {r : Ring} (h : SqL K H a (vNs r)) (hl : r.length ≤ 1000) : SpL (sp_backward_in K) [.ref a] H (vNs (backwardWaves r)) := fun _ e _ q _ => ⟨a, r, rfl, ex_l e h, hl, q⟩
theorem ok_backward_in (T : Txt K mg C) : Ok P w K mg base 3 "backward_in" ["states"] (sp_backward_in K) := by
  refine T.d_backward_in.ok sc_backward_in (fun vs H Q E h => ?_) (fun f cdv A outer s H vs Q E hr h => ?_)
  · obtain ⟨a, r, rfl, _⟩ := h
    rfl
  · obtain ⟨a, r, rfl, hS, hl, q⟩ := h
    refine ⟨_, (pss_one (ps_ret (pe_ok (ok_standing_between T) (hr.mono (by decide)) (pa_cons (pv 0) (pa_cons (pe_con_ T.c_SEATED) (pa_cons (pe_con_ T.c_RESTING) pa_nil)))))), ?_⟩
    exact s_retL (el_is (el_call (ea_cons (ev_var rfl) (ea_cons ev_c (ea_cons ev_c ea_nil))) (l_standing_between (b := 0) (c := 2) hS hl)) (by rw [btw_backward])) q
end
end Sw
/-! The defs of futures. -/
namespace Sw
open PySem PySem.Spec PyProof.Rows L2 Evl
open Kv439 (Ring nextRing ringAfter stateAt previousState isQuiet standing trajectory maxSteps stepsUntilQuiet)

/-! ### searches -/
def optInt : Option Nat → Int
  | none => -33
  | some n => n
theorem idx_at {α : Type} {p : α → Bool} {l : List α} {i : Nat} {x : α} (hx : l[i]? = some x) (h : p x = true) (hb : ∀ j y, j < i → l[j]? = some y → p y = false) : l.findIdx? p = some i := by
  obtain ⟨hi, e⟩ := List.getElem?_eq_some_iff.mp hx
  rw [List.findIdx?_eq_some_iff_getElem]
  refine ⟨hi, by rw [e]; exact h, fun j hj => ?_⟩
  rw [hb j _ hj (List.getElem?_eq_getElem (by omega))]
  exact Bool.false_ne_true
theorem idx_none {α : Type} {p : α → Bool} {l : List α} (hb : ∀ j y, j < l.length → l[j]? = some y → p y = false) : l.findIdx? p = none := by
  rw [List.findIdx?_eq_none_iff]
  intro x hx
  obtain ⟨j, hj, e⟩ := List.mem_iff_getElem.mp hx
  exact hb j x hj (by rw [List.getElem?_eq_getElem hj, e])
theorem idx_at' {α : Type} {p : α → Bool} {l : List α} {i : Nat} {x : α} (hx : l[i]? = some x) (h : p x = true) (hb : ∀ j y, j < i → l[j]? = some y → p y = false) : l.findIdx p = i := by
  obtain ⟨hi, e⟩ := List.getElem?_eq_some_iff.mp hx
  rw [List.findIdx_eq hi]
  refine ⟨by rw [e]; exact h, fun j hj => ?_⟩
  exact hb j _ hj (List.getElem?_eq_getElem (by omega))
theorem idx_none' {α : Type} {p : α → Bool} {l : List α} (hb : ∀ j y, j < l.length → l[j]? = some y → p y = false) : l.findIdx p = l.length := by
  rw [List.findIdx_eq_length]
  intro x hx
  obtain ⟨j, hj, e⟩ := List.mem_iff_getElem.mp hx
  exact hb j x hj (by rw [List.getElem?_eq_getElem hj, e])
theorem firstPlace_le {rs : List Ring} {i : Nat} {x : Ring} (hx : rs[i]? = some x) : firstPlace rs x ≤ i := by
  obtain ⟨hi, e⟩ := List.getElem?_eq_some_iff.mp hx
  refine Nat.le_of_not_lt fun c => ?_
  have w := List.not_of_lt_findIdx c
  rw [e] at w
  simp at w
theorem firstRepeat_lt {rs : List Ring} (h : 0 < rs.length) : firstRepeat rs < rs.length := by
  unfold firstRepeat
  cases e : ((List.range rs.length).find? fun k => decide (firstPlace rs (rs.getD k []) < k)) with
  | none =>
    rw [Option.getD_none]
    omega
  | some k =>
    rw [Option.getD_some]
    exact List.mem_range.mp (List.mem_of_find?_eq_some e)
theorem repeat_at {rs : List Ring} {i : Nat} {x : Ring} (hx : rs[i]? = some x) (h : firstPlace rs x < i) (hb : ∀ j y, j < i → rs[j]? = some y → ¬ firstPlace rs y < j) : firstRepeat rs = i := by
  obtain ⟨hi, _⟩ := List.getElem?_eq_some_iff.mp hx
  have e : ((List.range rs.length).find? fun k => decide (firstPlace rs (rs.getD k []) < k)) = some i := by
    rw [List.find?_range_eq_some]
    refine ⟨?_, List.mem_range.mpr hi, fun j hj => ?_⟩
    · rw [List.getD_eq_getElem?_getD, hx, Option.getD_some]
      exact decide_eq_true h
    · have hj2 : j < rs.length := by omega
      have q := hb j _ hj (List.getElem?_eq_getElem hj2)
      rw [List.getD_eq_getElem?_getD, List.getElem?_eq_getElem hj2, Option.getD_some, decide_eq_false q]
      rfl
  unfold firstRepeat
  rw [e, Option.getD_some]
theorem repeat_none {rs : List Ring} (hb : ∀ j y, j < rs.length → rs[j]? = some y → ¬ firstPlace rs y < j) : firstRepeat rs = rs.length - 1 := by
  have e : ((List.range rs.length).find? fun k => decide (firstPlace rs (rs.getD k []) < k)) = none := by
    rw [List.find?_range_eq_none]
    intro j hj
    have q := hb j _ hj (List.getElem?_eq_getElem hj)
    rw [List.getD_eq_getElem?_getD, List.getElem?_eq_getElem hj, Option.getD_some, decide_eq_false q]
    rfl
  unfold firstRepeat
  rw [e, Option.getD_none]
def most (rs : List Ring) : Nat := (rs.map standing).foldl max 0
theorem most_more {rs : List Ring} {i : Nat} {x : Ring} (h : rs[i]? = some x) : most (rs.take (i + 1)) = max (most (rs.take i)) (standing x) := by
  unfold most
  rw [take_more h, List.map_append, List.foldl_append]
  rfl

/-! ### lists of rings in the heap -/
def RingsAt (K : PySem.W.Frag) (H : Hp) (p : Addr) (rs : List Ring) : Prop :=
  ∃ as : List Addr, SqL K H p (as.map V.ref) ∧ as.length = rs.length ∧ ∀ (k : Nat) (b : Addr) (r : Ring), as[k]? = some b → rs[k]? = some r → SqL K H b (vNs r)
theorem RingsAt.mono {K : PySem.W.Frag} {H H' : Hp} {p : Addr} {rs : List Ring} (h : RingsAt K H p rs) (e : Ex H H') : RingsAt K H' p rs := by
  obtain ⟨as, h1, h2, h3⟩ := h
  exact ⟨as, ex_l e h1, h2, fun k b r a c => ex_l e (h3 k b r a c)⟩
theorem refs_get {as : List Addr} {i : Nat} {x : V} (h : (as.map V.ref)[i]? = some x) : ∃ b, as[i]? = some b ∧ x = .ref b := by
  rw [List.getElem?_map] at h
  cases e : as[i]? with
  | none =>
    rw [e] at h
    cases h
  | some b =>
    rw [e] at h
    exact ⟨b, rfl, (Option.some.inj h).symm⟩
theorem refs_ne {as : List Addr} {r : Ring} (h : as ≠ []) : vNs r ≠ as.map V.ref := by
  intro e
  cases as with
  | nil => exact h rfl
  | cons b as =>
    cases r with
    | nil => cases e
    | cons x r =>
      have e2 := List.cons.inj e
      cases e2.1
theorem get_of_len {α β : Type} {as : List α} {rs : List β} (h : as.length = rs.length) {i : Nat} {b : α} (hb : as[i]? = some b) : ∃ r, rs[i]? = some r := by
  obtain ⟨hi, _⟩ := List.getElem?_eq_some_iff.mp hb
  exact ⟨_, List.getElem?_eq_getElem (by omega)⟩
/-- a new list of rings is made -/
def EvR (K : PySem.W.Frag) (te : TE) (σ : L2.St) (H : Hp) (rs : List Ring) : Prop := ∀ H1, Ex H H1 → ∀ Q : VK, (∀ p H2, Ex H1 H2 → RingsAt K H2 p rs → Q (.ref p) H2) → te σ H1 Q
/-- for i, x in enumerate(a list that stands) -/
theorem for_enum {K : PySem.W.Frag} {a : Addr} {xs : List V} {i1 i2 : Nat} {tb : TS} {D : Ends} {σ : L2.St} {H : Hp} (Pv : Nat → L2.St → Hp → Prop) (h0 : Pv 0 σ H) (hl : ∀ i σ H, i ≤ xs.length → Pv i σ H → SqL K H a xs)
    (hs : ∀ i x σ H T, xs[i]? = some x → Pv i σ H → H T = none → tb { D with nx := Pv (i + 1), ct := Pv (i + 1), bk := D.nx } ((σ.set i1 (some (vN i))).set i2 (some x)) (upd H T (.tup [vN i, x]))) (hd : ∀ σ H, Pv xs.length σ H → D.nx σ H) :
    ∃ W : Nat → Nat → L2.St → Hp → Prop, (∃ m, W 0 m σ H) ∧ ∀ i m σ H, W i m σ H →
      ((Ite K a).stop i H ∧ D.nx σ H) ∨ ((Ite K a).go i H ∧ ∃ N : L2.St → Hp → Prop, (∀ σ' H', N σ' H' → ∃ m', m' < m ∧ W (i + 1) m' σ' H') ∧
        ∀ x H', (Ite K a).yld i H x H' → gTup K 2 (gCons (gName i1) (gCons (gName i2) gNil)) x σ H' fun σ2 H2 => tb { D with nx := N, ct := N, bk := D.nx } σ2 H2) := by
  refine ⟨fun i m σ H => m = xs.length - i ∧ i ≤ xs.length ∧ Pv i σ H, ⟨xs.length, by simp, Nat.zero_le _, h0⟩, ?_⟩
  rintro i m σ H ⟨rfl, hi, p⟩
  have q := hl i σ H hi p
  by_cases hlt : i < xs.length
  · refine .inr ⟨⟨xs, xs[i], q, by simp [hlt]⟩, Pv (i + 1), fun σ' H' p' => ⟨xs.length - (i + 1), by omega, rfl, hlt, p'⟩, fun v H' y => ?_⟩
    obtain ⟨T, x, rfl, hT, rfl, hx⟩ := y
    refine ⟨T, [vN i, x], rfl, st_of upd_same, rfl, vN i, [x], rfl, x, [], rfl, rfl, ?_⟩
    exact hs i x σ H T (hx xs q) p hT
  · have e : i = xs.length := by omega
    subst e
    exact .inl ⟨⟨xs, q, Nat.le_refl _⟩, hd σ H p⟩

section
variable {P : Program} {w : World} {K : PySem.W.Frag} {mg : Str → Option Value} {base : Heap} {C : Addr}

/-! ### rings_ahead -/
def sp_rings_ahead (K : PySem.W.Frag) : Sp := fun vs H Q _ => ∃ (a : Addr) (r : Ring), vs = [.ref a] ∧ SqL K H a (vNs r) ∧ r.length ≤ 1000 ∧ ∀ p H2, Ex H H2 → RingsAt K H2 p (trajectory r maxSteps) → Q (.ref p) H2
theorem r_rings_ahead {σ : L2.St} {H : Hp} {ta : TE} {a : Addr} {r : Ring} (ha : Ev ta σ H (.ref a)) (h : SqL K H a (vNs r)) (hl : r.length ≤ 1000) : EvR K (tCall (sp_rings_ahead K) [] E0 (tCons ta tNil)) σ H (trajectory r maxSteps) := fun H1 e Q q =>
  ha H1 e _ fun H2 e2 => ⟨a, r, rfl, ex_l (e.trans e2) h, hl, fun p H3 e3 hR => q p H3 (e2.trans e3) hR⟩
theorem ok_rings_ahead (T : Txt K mg C) : Ok P w K mg base 3 "rings_ahead" ["states"] (sp_rings_ahead K) := by
  refine T.d_rings_ahead.ok sc_rings_ahead (fun vs H Q E h => ?_) (fun f cdv A outer s H vs Q E hr h => ?_)
  · obtain ⟨a, r, rfl, _⟩ := h
    rfl
  · obtain ⟨a, r, rfl, hS, hl, q⟩ := h
    refine ⟨_, (pss_cons (ps_set (i := 1) sc_rings_ahead.nd rfl (Or.inl rfl) (pe_callTy call_list_of (by rfl) T.z_list boot_list (pa_cons (pv 0) pa_nil)))
      (pss_cons (ps_set (i := 2) sc_rings_ahead.nd rfl (Or.inl rfl) (pe_lst (pa_cons (pv 1) pa_nil)))
      (pss_cons (ps_for PassesOwn.never rfl (pi_range1 (by rfl) T.z_range (pa_cons (pe_con_ T.c_HORIZON) pa_nil)) (pg_name (i := 3) sc_rings_ahead.nd rfl (Or.inl rfl))
      (pss_cons (ps_set (i := 1) sc_rings_ahead.nd rfl (Or.inl rfl) (pe_ok (ok_stepped T) (hr.mono (by decide)) (pa_cons (pv 1) pa_nil)))
      (pss_one (ps_expr (pe_bm PySem.F.plainAttrs_list PySem.F.slot_list_append PySem.F.type_list_append mt_append (pv 2) (pa_cons (pv 1) pa_nil))))))
      (pss_one (ps_ret (pv 2)))))), ?_⟩
    refine q_asgL (el_list (ev_var rfl) hS) fun p H1 hp e1 h1 => ?_
    refine q_asgL (el_one (v := .ref p) (ev_var rfl)) fun pf H2 hpf e2 h2 => ?_
    refine q_forR1 (n := 60) (ea_cons ev_c ea_nil) (by omega)
      (fun i σ' H' => ∃ (pr : Addr) (as : List Addr) (v3 : Option V), σ' = [some (.ref a), some (.ref pr), some (.ref pf), v3] ∧ Ex H H' ∧ H' pf = some (.lst (as.map V.ref)) ∧ H' pr = some (.lst (vNs (ringAfter r i))) ∧
        as.length = i + 1 ∧ ∀ k b, as[k]? = some b → H' b = some (.lst (vNs (ringAfter r k))))
      (fun H3 e3 => ⟨p, [p], none, rfl, (e1.trans e2).trans e3, e3 _ _ h2, (e2.trans e3) _ _ h1, rfl, fun k b hk => ?_⟩) (fun i σ' H3 hi p3 => ?_) (fun σ' H3 p3 => ?_)
    · cases k with
      | zero =>
        obtain rfl : p = b := Option.some.inj hk
        exact (e2.trans e3) _ _ h1
      | succ k =>
        rw [List.getElem?_cons_succ, List.getElem?_nil] at hk
        cases hk
    · obtain ⟨pr, as, v3, rfl, e3, hf, hc, hn, hall⟩ := p3
      refine q_asgL (el_call (ea_cons (ev_var rfl) ea_nil) (l_stepped (sq_of hc) (by rw [ringAfter_length]; exact hl))) fun p' H4 hp' e4 h4 => ?_
      refine s_app (xs := as.map V.ref) (v := .ref p') (e4 _ _ hf) (ev_var rfl) (ev_var rfl) (by rw [List.length_map]; omega) fun H5 e5 => ?_
      have hne : as ≠ [] := fun z => by
        rw [z] at hn
        cases hn
      have hpf0 : H pf = none := fresh_back e1 hpf
      have hpp : p' ≠ pf := fun z => by
        rw [z, hf] at hp'
        cases hp'
      refine ⟨p', as ++ [p'], _, rfl, Ex.mut ((e3.trans e4).trans e5) hpf0, ?_, ?_, by rw [List.length_append, hn]; rfl, fun k b hk => ?_⟩
      · rw [upd_same, List.map_append]
        rfl
      · rw [upd_ne hpp, e5 _ _ h4, ringAfter_succ]
      · have hb : b ≠ pf := by
          by_cases hk2 : k < as.length
          · rw [List.getElem?_append_left hk2] at hk
            intro z
            have q1 := hall k b hk
            rw [z, hf] at q1
            exact refs_ne hne (HO.lst.inj (Option.some.inj q1)).symm
          · rw [List.getElem?_append_right (by omega)] at hk
            obtain ⟨_, e6⟩ := List.getElem?_eq_some_iff.mp hk
            rw [List.getElem_singleton] at e6
            rw [← e6]
            exact hpp
        rw [upd_ne hb]
        by_cases hk2 : k < as.length
        · rw [List.getElem?_append_left hk2] at hk
          exact (e4.trans e5) _ _ (hall k b hk)
        · rw [List.getElem?_append_right (by omega)] at hk
          obtain ⟨h7, e6⟩ := List.getElem?_eq_some_iff.mp hk
          rw [List.getElem_singleton] at e6
          rw [List.length_singleton] at h7
          have ek : k = i + 1 := by omega
          rw [← e6, ek, e5 _ _ h4, ringAfter_succ]
    · obtain ⟨pr, as, v3, rfl, e3, hf, hc, hn, hall⟩ := p3
      refine s_ret (ev_var rfl) fun H4 e4 => q pf H4 (e3.trans e4) ⟨as, sq_of (e4 _ _ hf), ?_, fun k b rr hk hr2 => ?_⟩
      · rw [hn, trajectory_length]
        rfl
      · obtain ⟨hk1, _⟩ := List.getElem?_eq_some_iff.mp hk
        rw [hn] at hk1
        rw [trajectory_get maxSteps r k (by rw [maxSteps]; have e60 : (60 : Int).toNat = 60 := rfl; omega)] at hr2
        rw [← Option.some.inj hr2]
        exact sq_of (e4 _ _ (hall k b hk))
/-! ### quiet_time, standing_time -/
def sp_quiet_time (K : PySem.W.Frag) : Sp := fun vs H Q _ => ∃ (a : Addr) (r : Ring), vs = [.ref a] ∧ SqL K H a (vNs r) ∧ r.length ≤ 1000 ∧ RetV (.int (optInt (stepsUntilQuiet r))) H Q
theorem v_quiet_time {H : Hp} {a : Addr} {r : Ring} (h : SqL K H a (vNs r)) (hl : r.length ≤ 1000) : SpV (sp_quiet_time K) [.ref a] H (.int (optInt (stepsUntilQuiet r))) := fun _ e _ q _ => ⟨a, r, rfl, ex_l e h, hl, q⟩
theorem ok_quiet_time (T : Txt K mg C) : Ok P w K mg base 4 "quiet_time" ["states"] (sp_quiet_time K) := by
  refine T.d_quiet_time.ok sc_quiet_time (fun vs H Q E h => ?_) (fun f cdv A outer s H vs Q E hr h => ?_)
  · obtain ⟨a, r, rfl, _⟩ := h
    rfl
  · obtain ⟨a, r, rfl, hS, hl, q⟩ := h
    refine ⟨_, (pss_cons (ps_for PassesOwn.never rfl (pi_enum (by rfl) T.z_enumerate (pa_cons (pe_ok (ok_rings_ahead T) (hr.mono (by decide)) (pa_cons (pv 0) pa_nil)) pa_nil)) (pg_tup rfl (pgs_cons (pg_name (i := 1) sc_quiet_time.nd rfl (Or.inl rfl)) (pgs_cons (pg_name (i := 2) sc_quiet_time.nd rfl (Or.inl rfl)) pgs_nil)))
      (pss_one (ps_if (pt_val (pe_ok (ok_is_quiet T) (hr.mono (by decide)) (pa_cons (pv 2) pa_nil)))
      (pss_one (ps_ret (pv 1))) pss_nil)))
      (pss_one (ps_ret (pe_con_ T.c_NEVER)))), ?_⟩
    refine r_rings_ahead (ev_var rfl) hS hl H (Ex.refl H) _ fun p H1 e1 hR => ?_
    obtain ⟨as, hA, hAl, hall⟩ := hR
    refine ⟨p, as.map V.ref, rfl, hA, for_enum (xs := as.map V.ref) (fun i σ' H' => ∃ v1 v2 : Option V, σ' = [some (.ref a), v1, v2] ∧ Ex H1 H' ∧ ∀ j y, j < i → (trajectory r maxSteps)[j]? = some y → isQuiet y = false)
      ⟨none, none, rfl, Ex.refl _, fun j y hj => absurd hj (Nat.not_lt_zero j)⟩ (fun i σ' H' _ ⟨_, _, _, e2, _⟩ => ex_l e2 hA) (fun i x σ' H2 TT hx p2 hT => ?_) (fun σ' H2 p2 => ?_)⟩
    · obtain ⟨v1, v2, rfl, e2, hb⟩ := p2
      obtain ⟨b, hb1, rfl⟩ := refs_get hx
      obtain ⟨y, hy⟩ := get_of_len hAl hb1
      have e3 : Ex H1 (upd H2 TT (.tup [vN i, .ref b])) := e2.trans (Ex.new hT)
      refine s_when (et_B (ev_call (ea_cons (ev_var rfl) ea_nil) (v_is_quiet (ex_l e3 (hall i b y hb1 hy))))) (fun c H4 e4 => ?_) fun c H4 e4 => ?_
      · have er : stepsUntilQuiet r = some i := idx_at hy c hb
        rw [er] at q
        exact s_ret (ev_var rfl) fun H5 e5 => q H5 (((e1.trans e3).trans e4).trans e5)
      · refine ⟨_, _, rfl, e3.trans e4, fun j z hj hz => ?_⟩
        by_cases hji : j < i
        · exact hb j z hji hz
        · obtain rfl : j = i := by omega
          rw [hy] at hz
          rw [← Option.some.inj hz]
          exact c
    · obtain ⟨v1, v2, rfl, e2, hb⟩ := p2
      rw [List.length_map, hAl] at hb
      have er : stepsUntilQuiet r = none := idx_none hb
      rw [er] at q
      exact q H2 (e1.trans e2)
def standsAt (i : Nat) (r : Ring) : Bool := stateAt r i == 1
def sp_standing_time (K : PySem.W.Frag) : Sp := fun vs H Q _ => ∃ (a : Addr) (r : Ring) (k : Nat), vs = [.ref a, vN k] ∧ SqL K H a (vNs r) ∧ r.length ≤ 1000 ∧ k < r.length ∧ RetV (.int (optInt ((trajectory r maxSteps).findIdx? (standsAt k)))) H Q
theorem v_standing_time {H : Hp} {a : Addr} {r : Ring} {k : Nat} (h : SqL K H a (vNs r)) (hl : r.length ≤ 1000) (hk : k < r.length) : SpV (sp_standing_time K) [.ref a, vN k] H (.int (optInt ((trajectory r maxSteps).findIdx? (standsAt k)))) := fun _ e _ q _ => ⟨a, r, k, rfl, ex_l e h, hl, hk, q⟩
theorem ok_standing_time (T : Txt K mg C) : Ok P w K mg base 4 "standing_time" ["states", "section"] (sp_standing_time K) := by
  refine T.d_standing_time.ok sc_standing_time (fun vs H Q E h => ?_) (fun f cdv A outer s H vs Q E hr h => ?_)
  · obtain ⟨a, r, k, rfl, _⟩ := h
    rfl
  · obtain ⟨a, r, k, rfl, hS, hl, hk, q⟩ := h
    refine ⟨_, (pss_cons (ps_for PassesOwn.never rfl (pi_enum (by rfl) T.z_enumerate (pa_cons (pe_ok (ok_rings_ahead T) (hr.mono (by decide)) (pa_cons (pv 0) pa_nil)) pa_nil)) (pg_tup rfl (pgs_cons (pg_name (i := 2) sc_standing_time.nd rfl (Or.inl rfl)) (pgs_cons (pg_name (i := 3) sc_standing_time.nd rfl (Or.inl rfl)) pgs_nil)))
      (pss_one (ps_if (pt_cmpR op_eq (pe_ix ix_list (pv 3) (pv 1) (fun _ _ => rfl)) (pe_con_ T.c_STANDING) (nomark _))
      (pss_one (ps_ret (pv 2))) pss_nil)))
      (pss_one (ps_ret (pe_con_ T.c_NEVER)))), ?_⟩
    refine r_rings_ahead (ev_var rfl) hS hl H (Ex.refl H) _ fun p H1 e1 hR => ?_
    obtain ⟨as, hA, hAl, hall⟩ := hR
    refine ⟨p, as.map V.ref, rfl, hA, for_enum (xs := as.map V.ref) (fun i σ' H' => ∃ v1 v2 : Option V, σ' = [some (.ref a), some (vN k), v1, v2] ∧ Ex H1 H' ∧ ∀ j y, j < i → (trajectory r maxSteps)[j]? = some y → standsAt k y = false)
      ⟨none, none, rfl, Ex.refl _, fun j y hj => absurd hj (Nat.not_lt_zero j)⟩ (fun i σ' H' _ ⟨_, _, _, e2, _⟩ => ex_l e2 hA) (fun i x σ' H2 TT hx p2 hT => ?_) (fun σ' H2 p2 => ?_)⟩
    · obtain ⟨v1, v2, rfl, e2, hb⟩ := p2
      obtain ⟨b, hb1, rfl⟩ := refs_get hx
      obtain ⟨y, hy⟩ := get_of_len hAl hb1
      have hyl : y.length = r.length := by
        rw [trajectory_eq, List.getElem?_map] at hy
        cases ei : (List.range (maxSteps + 1))[i]? with
        | none =>
          rw [ei] at hy
          cases hy
        | some m =>
          rw [ei] at hy
          rw [← Option.some.inj hy, ringAfter_length]
      have e3 : Ex H1 (upd H2 TT (.tup [vN i, .ref b])) := e2.trans (Ex.new hT)
      refine s_when (et_eq (m := stateAt y k) (n := 1) (ev_ixN (ev_var rfl) (ev_var rfl) (ex_l e3 (hall i b y hb1 hy)) (get_stateAt (by omega))) ev_c) (fun c H4 e4 => ?_) fun c H4 e4 => ?_
      · have er : (trajectory r maxSteps).findIdx? (standsAt k) = some i := idx_at hy (by unfold standsAt; rw [Bool.beq_eq_decide_eq]; exact c) hb
        rw [er] at q
        exact s_ret (ev_var rfl) fun H5 e5 => q H5 (((e1.trans e3).trans e4).trans e5)
      · refine ⟨_, _, rfl, e3.trans e4, fun j z hj hz => ?_⟩
        by_cases hji : j < i
        · exact hb j z hji hz
        · obtain rfl : j = i := by omega
          rw [hy] at hz
          rw [← Option.some.inj hz]
          unfold standsAt
          rw [Bool.beq_eq_decide_eq]
          exact c
    · obtain ⟨v1, v2, rfl, e2, hb⟩ := p2
      rw [List.length_map, hAl] at hb
      have er : (trajectory r maxSteps).findIdx? (standsAt k) = none := idx_none hb
      rw [er] at q
      exact q H2 (e1.trans e2)
/-! ### most_standing -/
def sp_most_standing (K : PySem.W.Frag) : Sp := fun vs H Q _ => ∃ (a : Addr) (r : Ring), vs = [.ref a] ∧ SqL K H a (vNs r) ∧ r.length ≤ 1000 ∧ RetV (vN (most (trajectory r maxSteps))) H Q
theorem v_most_standing {H : Hp} {a : Addr} {r : Ring} (h : SqL K H a (vNs r)) (hl : r.length ≤ 1000) : SpV (sp_most_standing K) [.ref a] H (vN (most (trajectory r maxSteps))) := fun _ e _ q _ => ⟨a, r, rfl, ex_l e h, hl, q⟩
theorem ok_most_standing (T : Txt K mg C) : Ok P w K mg base 4 "most_standing" ["states"] (sp_most_standing K) := by
  refine T.d_most_standing.ok sc_most_standing (fun vs H Q E h => ?_) (fun f cdv A outer s H vs Q E hr h => ?_)
  · obtain ⟨a, r, rfl, _⟩ := h
    rfl
  · obtain ⟨a, r, rfl, hS, hl, q⟩ := h
    refine ⟨_, (pss_cons (ps_set (i := 1) sc_most_standing.nd rfl (Or.inl rfl) pe_int)
      (pss_cons (ps_for PassesOwn.never rfl (pi_list (pe_ok (ok_rings_ahead T) (hr.mono (by decide)) (pa_cons (pv 0) pa_nil))) (pg_name (i := 2) sc_most_standing.nd rfl (Or.inl rfl))
      (pss_one (ps_set (i := 1) sc_most_standing.nd rfl (Or.inl rfl) (pe_callB (call_max2 rfl) (by rfl) T.z_max PyProof.Rows.boot_max (pa_cons (pv 1) (pa_cons (pe_ok (ok_count_standing T) (hr.mono (by decide)) (pa_cons (pv 2) pa_nil)) pa_nil))))))
      (pss_one (ps_ret (pv 1))))), ?_⟩
    refine q_asg (v := vN 0) ev_c fun H0 e0 => ?_
    refine r_rings_ahead (ev_var rfl) (ex_l e0 hS) hl H0 (Ex.refl H0) _ fun p H1 e1 hR => ?_
    obtain ⟨as, hA, hAl, hall⟩ := hR
    refine ⟨p, rfl, ⟨as.map V.ref, hA⟩, for_list (xs := as.map V.ref) (fun i σ' H' => ∃ v2 : Option V, σ' = [some (.ref a), some (vN (most ((trajectory r maxSteps).take i))), v2] ∧ Ex H1 H')
      ⟨none, rfl, Ex.refl _⟩ (fun i σ' H' _ ⟨_, _, e2⟩ => ex_l e2 hA) (fun i x σ' H2 hx p2 => ?_) (fun σ' H2 p2 => ?_)⟩
    · obtain ⟨v2, rfl, e2⟩ := p2
      obtain ⟨b, hb1, rfl⟩ := refs_get hx
      obtain ⟨y, hy⟩ := get_of_len hAl hb1
      refine s_asg (v := vN (most ((trajectory r maxSteps).take (i + 1)))) (ev_is (ev_max2 (ev_var rfl) (ev_call (ea_cons (ev_var rfl) ea_nil) (v_count_standing (ex_l e2 (hall i b y hb1 hy))))) ?_) fun H4 e4 => ⟨_, rfl, e2.trans e4⟩
      rw [most_more hy]
      refine congrArg V.int ?_
      rw [Nat.max_def]
      split <;> split <;> omega
    · obtain ⟨v2, rfl, e2⟩ := p2
      rw [List.length_map, hAl, List.take_length]
      exact s_ret (ev_var rfl) fun H5 e5 => q H5 (((e0.trans e1).trans e2).trans e5)
/-! ### first_place, first_repeat, cycle_of -/
def sp_first_place (K : PySem.W.Frag) : Sp := fun vs H Q _ => ∃ (a b : Addr) (rs : List Ring) (r : Ring), vs = [.ref a, .ref b] ∧ RingsAt K H a rs ∧ SqL K H b (vNs r) ∧ RetV (vN (firstPlace rs r)) H Q
theorem v_first_place {H : Hp} {a b : Addr} {rs : List Ring} {r : Ring} (h : RingsAt K H a rs) (h2 : SqL K H b (vNs r)) : SpV (sp_first_place K) [.ref a, .ref b] H (vN (firstPlace rs r)) := fun _ e _ q _ => ⟨a, b, rs, r, rfl, h.mono e, ex_l e h2, q⟩
theorem ok_first_place (T : Txt K mg C) : Ok P w K mg base 1 "first_place" ["rings", "ring"] (sp_first_place K) := by
  refine T.d_first_place.ok sc_first_place (fun vs H Q E h => ?_) (fun f cdv A outer s H vs Q E hr h => ?_)
  · obtain ⟨a, b, rs, r, rfl, _⟩ := h
    rfl
  · obtain ⟨a, b, rs, r, rfl, ⟨as, hA, hAl, hall⟩, hB, q⟩ := h
    refine ⟨_, (pss_cons (ps_for PassesOwn.never rfl (pi_enum (by rfl) T.z_enumerate (pa_cons (pv 0) pa_nil)) (pg_tup rfl (pgs_cons (pg_name (i := 2) sc_first_place.nd rfl (Or.inl rfl)) (pgs_cons (pg_name (i := 3) sc_first_place.nd rfl (Or.inl rfl)) pgs_nil)))
      (pss_one (ps_if (pt_cmpR (op_eqD hr.units) (pv 3) (pv 1) (nomark _))
      (pss_one (ps_ret (pv 2))) pss_nil)))
      (pss_one (ps_ret (pe_callB call_len_seq (by rfl) T.z_len PySem.boot_len (pa_cons (pv 0) pa_nil))))), ?_⟩
    refine ⟨_, rfl, a, as.map V.ref, rfl, hA, for_enum (xs := as.map V.ref) (fun i σ' H' => ∃ v1 v2 : Option V, σ' = [some (.ref a), some (.ref b), v1, v2] ∧ Ex H H' ∧ ∀ j y, j < i → rs[j]? = some y → (y == r) = false)
      ⟨none, none, rfl, Ex.refl _, fun j y hj => absurd hj (Nat.not_lt_zero j)⟩ (fun i σ' H' _ ⟨_, _, _, e2, _⟩ => ex_l e2 hA) (fun i x σ' H2 TT hx p2 hT => ?_) (fun σ' H2 p2 => ?_)⟩
    · obtain ⟨v1, v2, rfl, e2, hb⟩ := p2
      obtain ⟨c0, hb1, rfl⟩ := refs_get hx
      obtain ⟨y, hy⟩ := get_of_len hAl hb1
      have e3 : Ex H (upd H2 TT (.tup [vN i, .ref c0])) := e2.trans (Ex.new hT)
      refine s_when (et_eqR (ev_var rfl) (ev_var rfl) (ex_l e3 (hall i c0 y hb1 hy)) (ex_l e3 hB)) (fun c H4 e4 => ?_) fun c H4 e4 => ?_
      · have er : firstPlace rs r = i := idx_at' hy (by rw [Bool.beq_eq_decide_eq]; exact c) hb
        rw [er] at q
        exact s_ret (ev_var rfl) fun H5 e5 => q H5 ((e3.trans e4).trans e5)
      · refine ⟨_, _, rfl, e3.trans e4, fun j z hj hz => ?_⟩
        by_cases hji : j < i
        · exact hb j z hji hz
        · obtain rfl : j = i := by omega
          rw [hy] at hz
          rw [← Option.some.inj hz, Bool.beq_eq_decide_eq]
          exact c
    · obtain ⟨v1, v2, rfl, e2, hb⟩ := p2
      rw [List.length_map, hAl] at hb
      have er : firstPlace rs r = rs.length := idx_none' hb
      rw [er, ← hAl] at q
      exact s_ret (ev_is (ev_len (ev_var rfl) (ex_l e2 hA)) (by rw [List.length_map])) fun H5 e5 => q H5 (e2.trans e5)
def sp_first_repeat (K : PySem.W.Frag) : Sp := fun vs H Q _ => ∃ (a : Addr) (rs : List Ring), vs = [.ref a] ∧ RingsAt K H a rs ∧ 0 < rs.length ∧ RetV (vN (firstRepeat rs)) H Q
theorem v_first_repeat {H : Hp} {a : Addr} {rs : List Ring} (h : RingsAt K H a rs) (hp : 0 < rs.length) : SpV (sp_first_repeat K) [.ref a] H (vN (firstRepeat rs)) := fun _ e _ q _ => ⟨a, rs, rfl, h.mono e, hp, q⟩
theorem ok_first_repeat (T : Txt K mg C) : Ok P w K mg base 2 "first_repeat" ["rings"] (sp_first_repeat K) := by
  refine T.d_first_repeat.ok sc_first_repeat (fun vs H Q E h => ?_) (fun f cdv A outer s H vs Q E hr h => ?_)
  · obtain ⟨a, rs, rfl, _⟩ := h
    rfl
  · obtain ⟨a, rs, rfl, hR, hpos, q⟩ := h
    refine ⟨_, (pss_cons (ps_for PassesOwn.never rfl (pi_enum (by rfl) T.z_enumerate (pa_cons (pv 0) pa_nil)) (pg_tup rfl (pgs_cons (pg_name (i := 1) sc_first_repeat.nd rfl (Or.inl rfl)) (pgs_cons (pg_name (i := 2) sc_first_repeat.nd rfl (Or.inl rfl)) pgs_nil)))
      (pss_one (ps_if (pt_cmpR op_lt (pe_ok (ok_first_place T) (hr.mono (by decide)) (pa_cons (pv 0) (pa_cons (pv 2) pa_nil))) (pv 1) (nomark _))
      (pss_one (ps_ret (pv 1))) pss_nil)))
      (pss_one (ps_ret (pe_op op_sub (pe_callB call_len_seq (by rfl) T.z_len PySem.boot_len (pa_cons (pv 0) pa_nil)) pe_int)))), ?_⟩
    obtain ⟨as, hA, hAl, hall⟩ := id hR
    refine ⟨_, rfl, a, as.map V.ref, rfl, hA, for_enum (xs := as.map V.ref) (fun i σ' H' => ∃ v1 v2 : Option V, σ' = [some (.ref a), v1, v2] ∧ Ex H H' ∧ ∀ j y, j < i → rs[j]? = some y → ¬ firstPlace rs y < j)
      ⟨none, none, rfl, Ex.refl _, fun j y hj => absurd hj (Nat.not_lt_zero j)⟩ (fun i σ' H' _ ⟨_, _, _, e2, _⟩ => ex_l e2 hA) (fun i x σ' H2 TT hx p2 hT => ?_) (fun σ' H2 p2 => ?_)⟩
    · obtain ⟨v1, v2, rfl, e2, hb⟩ := p2
      obtain ⟨c0, hb1, rfl⟩ := refs_get hx
      obtain ⟨y, hy⟩ := get_of_len hAl hb1
      have e3 : Ex H (upd H2 TT (.tup [vN i, .ref c0])) := e2.trans (Ex.new hT)
      refine s_when (et_lt (m := firstPlace rs y) (n := i) (ev_call (ea_cons (ev_var rfl) (ea_cons (ev_var rfl) ea_nil)) (v_first_place (hR.mono e3) (ex_l e3 (hall i c0 y hb1 hy)))) (ev_var rfl)) (fun c H4 e4 => ?_) fun c H4 e4 => ?_
      · have er : firstRepeat rs = i := repeat_at hy (of_decide_eq_true c) hb
        rw [er] at q
        exact s_ret (ev_var rfl) fun H5 e5 => q H5 ((e3.trans e4).trans e5)
      · refine ⟨_, _, rfl, e3.trans e4, fun j z hj hz => ?_⟩
        by_cases hji : j < i
        · exact hb j z hji hz
        · obtain rfl : j = i := by omega
          rw [hy] at hz
          rw [← Option.some.inj hz]
          exact of_decide_eq_false c
    · obtain ⟨v1, v2, rfl, e2, hb⟩ := p2
      rw [List.length_map, hAl] at hb
      have er : firstRepeat rs = rs.length - 1 := repeat_none hb
      rw [er] at q
      exact s_ret (ev_is (ev_sub (ev_len (ev_var rfl) (ex_l e2 hA)) ev_c) (by
        rw [List.length_map, hAl]
        refine congrArg V.int ?_
        omega)) fun H5 e5 => q H5 (e2.trans e5)
def sp_cycle_of (K : PySem.W.Frag) : Sp := fun vs H Q _ => ∃ (a : Addr) (r : Ring), vs = [.ref a] ∧ SqL K H a (vNs r) ∧ r.length ≤ 1000 ∧ RetL [vN (cycleOf r).1, vN (cycleOf r).2] H Q
theorem l_cycle_of {H : Hp} {a : Addr} {r : Ring} (h : SqL K H a (vNs r)) (hl : r.length ≤ 1000) : SpL (sp_cycle_of K) [.ref a] H [vN (cycleOf r).1, vN (cycleOf r).2] := fun _ e _ q _ => ⟨a, r, rfl, ex_l e h, hl, q⟩
theorem ok_cycle_of (T : Txt K mg C) : Ok P w K mg base 4 "cycle_of" ["states"] (sp_cycle_of K) := by
  refine T.d_cycle_of.ok sc_cycle_of (fun vs H Q E h => ?_) (fun f cdv A outer s H vs Q E hr h => ?_)
  · obtain ⟨a, r, rfl, _⟩ := h
    rfl
  · obtain ⟨a, r, rfl, hS, hl, q⟩ := h
    refine ⟨_, (pss_cons (ps_set (i := 1) sc_cycle_of.nd rfl (Or.inl rfl) (pe_ok (ok_rings_ahead T) (hr.mono (by decide)) (pa_cons (pv 0) pa_nil)))
      (pss_cons (ps_set (i := 2) sc_cycle_of.nd rfl (Or.inl rfl) (pe_ok (ok_first_repeat T) (hr.mono (by decide)) (pa_cons (pv 1) pa_nil)))
      (pss_cons (ps_set (i := 3) sc_cycle_of.nd rfl (Or.inl rfl) (pe_ok (ok_first_place T) (hr.mono (by decide)) (pa_cons (pv 1) (pa_cons (pe_ix ix_list (pv 1) (pv 2) (fun _ _ => rfl)) pa_nil))))
      (pss_one (ps_ret (pe_lst (pa_cons (pv 3) (pa_cons (pe_op op_sub (pv 2) (pv 3)) pa_nil)))))))), ?_⟩
    refine r_rings_ahead (ev_var rfl) hS hl H (Ex.refl H) _ fun p H1 e1 hR => ?_
    have hpos : 0 < (trajectory r maxSteps).length := by
      rw [trajectory_length]
      exact Nat.succ_pos _
    have hag := firstRepeat_lt hpos
    obtain ⟨as, hA, hAl, hall⟩ := id hR
    have hg : as[firstRepeat (trajectory r maxSteps)]? = some (as[firstRepeat (trajectory r maxSteps)]'(by rw [hAl]; exact hag)) := List.getElem?_eq_getElem (by rw [hAl]; exact hag)
    have hg2 : (trajectory r maxSteps)[firstRepeat (trajectory r maxSteps)]? = some ((trajectory r maxSteps).getD (firstRepeat (trajectory r maxSteps)) []) := by
      rw [List.getD_eq_getElem?_getD, List.getElem?_eq_getElem hag, Option.getD_some]
    have hle := firstPlace_le hg2
    refine q_asg (ev_call (ea_cons (ev_var rfl) ea_nil) (v_first_repeat hR hpos)) fun H2 e2 => ?_
    refine q_asg (ev_call (ea_cons (ev_var rfl) (ea_cons (ev_op (ev_var rfl) (ev_var rfl) (rv_ixL (ex_l e2 hA) (atI_nat (by rw [List.getElem?_map, hg]; rfl)))) ea_nil)) (v_first_place (hR.mono e2) (ex_l e2 (hall _ _ _ hg hg2)))) fun H3 e3 => ?_
    refine s_retL (el_two (ev_var rfl) (ev_N (n := (cycleOf r).2) (ev_sub (ev_var rfl) (ev_var rfl)) ?_)) fun p' H4 hp' e4 h4 => q p' H4 ?_ (((e1.trans e2).trans e3).trans e4) h4
    · show ((firstRepeat (trajectory r maxSteps) : Nat) : Int) - ((firstPlace (trajectory r maxSteps) ((trajectory r maxSteps).getD (firstRepeat (trajectory r maxSteps)) []) : Nat) : Int) = ((firstRepeat (trajectory r maxSteps) - firstPlace (trajectory r maxSteps) ((trajectory r maxSteps).getD (firstRepeat (trajectory r maxSteps)) []) : Nat) : Int)
      omega
    · exact fresh_back ((e1.trans e2).trans e3) hp'
end
end Sw
/-! The simulator's methods, and the operations that change it. -/
namespace Sw
open PySem PySem.Spec PyProof.Rows L2 Evl
open Kv439 (Ring nextRing ringAfter stateAt previousState standing Simulator Operation)
open Kv439Neutral (resultRow)

/-! ### fields and methods of the simulator -/
theorem hall_no {p : Addr} {x : V} {m : Str} (h1 : (m == ("states" : Str)) = false) (h2 : (m == ("time" : Str)) = false) : ([("states", .ref p), ("time", x)] : List (Str × V)).lookup m = none :=
  (lk_past h1).trans ((lk_past h2).trans rfl)
abbrev hF (p : Addr) (x : V) : List (Str × V) := [("states", .ref p), ("time", x)]
theorem put_states (p q : Addr) (x : V) : putF "states" (.ref q) (hF p x) = hF q x := put_here
theorem put_time (p : Addr) (x y : V) : putF "time" y (hF p x) = hF p y := (put_past (by decide +kernel)).trans (congrArg _ put_here)
theorem put_new (p : Addr) (y : V) : putF "time" y (putF "states" (.ref p) []) = hF p y := (put_past (by decide +kernel)).trans rfl
section
variable {K : PySem.W.Frag} {σ : L2.St} {H H' : Hp} {ta tb te tv th : TE} {tz : TS} {D : Ends} {v : V} {C a p dx : Addr} {fs : List (Str × V)} {f m : Str} {sp : Sp} {E : XK}
theorem s_fldL {xs : List V} (hv : EvL tv σ H xs) (ho : Ev ta σ H (.ref a)) (hi : H a = some (.ins C dx fs)) (c : Cls K C) (n : NoAttr K C f) (hl : fs.length < 1000)
    (k : ∀ q H1, H q = none → Ex H H1 → H1 q = some (.lst xs) → D.nx σ (upd H1 a (.ins C dx (putF f (.ref q) fs)))) : sFld K ta tv f D σ H :=
  hv H (Ex.refl H) _ fun q H1 hq e1 h1 => ho H1 e1 _ fun H2 e2 => ⟨a, C, dx, fs, rfl, (e1.trans e2) _ _ hi, c, n, hl, k q H2 hq (e1.trans e2) (e2 _ _ h1)⟩
theorem s_fldV (hv : Ev tv σ H v) (ho : Ev ta σ H (.ref a)) (hi : H a = some (.ins C dx fs)) (c : Cls K C) (n : NoAttr K C f) (hl : fs.length < 1000)
    (k : ∀ H1, Ex H H1 → D.nx σ (upd H1 a (.ins C dx (putF f v fs)))) : sFld K ta tv f D σ H :=
  hv H (Ex.refl H) _ fun H1 e1 => ho H1 e1 _ fun H2 e2 => ⟨a, C, dx, fs, rfl, (e1.trans e2) _ _ hi, c, n, hl, k H2 (e1.trans e2)⟩
theorem q_fldL {xs : List V} (hv : EvL tv σ H xs) (ho : Ev ta σ H (.ref a)) (hi : H a = some (.ins C dx fs)) (c : Cls K C) (n : NoAttr K C f) (hl : fs.length < 1000)
    (k : ∀ q H1, H q = none → Ex H H1 → H1 q = some (.lst xs) → tz D σ (upd H1 a (.ins C dx (putF f (.ref q) fs)))) : tSeq (sFld K ta tv f) tz D σ H := s_fldL (D := { D with nx := tz D }) hv ho hi c n hl k
/-- hall.m(value) -/
theorem q_methV {r : Ring} {t : Nat} (ho : Ev th σ H (.ref a)) (hh : HallAt C H a p r t) (h1 : (m == ("states" : Str)) = false) (h2 : (m == ("time" : Str)) = false) (hv : Ev te σ H v)
    (k : ∀ H1, Ex H H1 → sp [.ref a, v] H1 (fun _ H2 => tz D σ H2) E) : tSeq (tDrop (tMeth C m sp [] E th (tCons te tNil))) tz D σ H := by
  obtain ⟨⟨dx, g1⟩, g2⟩ := hh
  exact ho H (Ex.refl H) _ fun H1 e1 => ⟨a, dx, _, rfl, e1 _ _ g1, hall_no h1 h2, hv H1 e1 _ fun H2 e2 => k H2 (e1.trans e2)⟩
/-- hall.m(a new list) -/
theorem q_methL {r : Ring} {t : Nat} {xs : List V} (ho : Ev th σ H (.ref a)) (hh : HallAt C H a p r t) (h1 : (m == ("states" : Str)) = false) (h2 : (m == ("time" : Str)) = false) (hv : EvL te σ H xs)
    (k : ∀ l H1, Ex H H1 → H1 l = some (.lst xs) → sp [.ref a, .ref l] H1 (fun _ H2 => tz D σ H2) E) : tSeq (tDrop (tMeth C m sp [] E th (tCons te tNil))) tz D σ H := by
  obtain ⟨⟨dx, g1⟩, g2⟩ := hh
  exact ho H (Ex.refl H) _ fun H1 e1 => ⟨a, dx, _, rfl, e1 _ _ g1, hall_no h1 h2, hv H1 e1 _ fun l H2 hl e2 h2 => k l H2 (e1.trans e2) h2⟩
/-- f(a new list) -/
theorem ev_callL {xs : List V} {z : V} (h : EvL te σ H xs) (hs : ∀ l H1, Ex H H1 → H1 l = some (.lst xs) → SpV sp [.ref l] H1 z) : Ev (tCall sp [] E (tCons te tNil)) σ H z := fun H1 e Q q =>
  h H1 e _ fun l H2 hl e2 h2 => hs l H2 (e.trans e2) h2 H2 (Ex.refl H2) Q (fun H3 e3 => q H3 (e2.trans e3)) E
theorem el_callL {xs ys : List V} (h : EvL te σ H xs) (hs : ∀ l H1, Ex H H1 → H1 l = some (.lst xs) → SpL sp [.ref l] H1 ys) : EvL (tCall sp [] E (tCons te tNil)) σ H ys := fun H1 e Q q =>
  h H1 e _ fun l H2 hl e2 h2 => hs l H2 (e.trans e2) h2 H2 (Ex.refl H2) Q (fun p H3 hp e3 h3 => q p H3 (fresh_back e2 hp) (e2.trans e3) h3) E
/-- over a new tuple -/
theorem q_forNT {xs : List V} {tl : TE} {tu : TS} {j : Nat} (h : EvU tl σ H xs) (k : ∀ p H1, Ex H H1 → H1 p = some (.tup xs) → ∃ Pv : Nat → L2.St → Hp → Prop, Pv 0 σ H1 ∧ (∀ i σ' H', i ≤ xs.length → Pv i σ' H' → SqT K H' p xs) ∧
    (∀ i x σ' H', xs[i]? = some x → Pv i σ' H' → tu { D with nx := Pv (i + 1), ct := Pv (i + 1), bk := tz D } (σ'.set j (some x)) H') ∧ (∀ σ' H', Pv xs.length σ' H' → tz D σ' H')) : tSeq (tFor (iTup K tl) (gName j) tu) tz D σ H :=
  h H (Ex.refl H) _ fun p H1 hp e h1 => by
    obtain ⟨Pv, k0, k1, k2, k3⟩ := k p H1 e h1
    exact ⟨p, rfl, ⟨xs, st_of h1⟩, for_tup (D := { D with nx := tz D }) Pv k0 k1 k2 k3⟩
theorem HallAt.put {r r2 : Ring} {t t2 : Nat} {H1 : Hp} {q : Addr} (hh : HallAt C H a p r t) (hq : H q = none) (h1 : H1 q = some (.lst (vNs r2))) (dx : Addr) : HallAt C (upd H1 a (.ins C dx [("states", .ref q), ("time", vN t2)])) a q r2 t2 := by
  obtain ⟨⟨_, g1⟩, g2⟩ := hh
  have hne : q ≠ a := fun z => by
    rw [z, g1] at hq
    cases hq
  exact ⟨⟨dx, upd_same⟩, by rw [upd_ne hne]; exact h1⟩
/-- an answer behind a change -/
theorem RetC.back {r : Ring} {t : Nat} {row : List Int} {Q : VK} {p' : Addr} (k : RetC C a p r t row H Q) (u : Upd a H H') (hp : H p' = none) (hh : HallAt C H' a p' r t) : RetL (row.map V.int) H' Q := fun l H2 hl e h2 => by
  refine k H2 l p' (u.trans (.of_ex e)) (.inr hp) (hh.mono e) (u.free hl fun z => ?_) h2
  obtain ⟨⟨dx, g1⟩, _⟩ := hh
  rw [z, g1] at hl
  cases hl
end
section
variable {P : Program} {w : World} {K : PySem.W.Frag} {mg : Str → Option Value} {base : Heap} {C : Addr}

/-! ### __init__, begin, put_ring, pass_steps -/
def sp_init (C : Addr) : Sp := fun vs H Q _ => ∃ a dx : Addr, vs = [.ref a] ∧ H a = some (.ins C dx []) ∧ ∀ H' p', Upd a H H' → H p' = none → HallAt C H' a p' [] 0 → Q .non H'
theorem ok_init (T : Txt K mg C) : MOk P w K mg base C 1 "__init__" ["self"] (sp_init C) := by
  refine T.d_init.ok sc_init (fun vs H Q E h => ?_) (fun f cdv A outer s H vs Q E hr h => ?_)
  · obtain ⟨a, dx, rfl, _⟩ := h
    rfl
  · obtain ⟨a, dx, rfl, hi, q⟩ := h
    refine ⟨_, (pss_cons (ps_fld (pv 0) (pe_lst pa_nil) rfl)
      (pss_one (ps_fld (pv 0) pe_int rfl))), ?_⟩
    refine q_fldL el_nil (ev_var rfl) hi T.cl T.nS (by decide) fun p H1 hp e1 h1 => ?_
    refine s_fldV (v := vN 0) ev_c (ev_var rfl) upd_same T.cl T.nT (by show 1 < 1000; decide) fun H2 e2 => ?_
    rw [put_new]
    have hne : p ≠ a := fun z => by
      rw [z, hi] at hp
      cases hp
    refine q _ p (((Upd.of_ex e1).trans (Upd.put.trans (.of_ex e2))).trans .put) hp ⟨⟨dx, upd_same⟩, ?_⟩
    rw [upd_ne hne]
    exact e2 _ _ (by rw [upd_ne hne]; exact h1)
def sp_begin (C : Addr) : Sp := fun vs H Q _ => ∃ (a p : Addr) (r : Ring) (t n : Nat), vs = [.ref a, vN n] ∧ HallAt C H a p r t ∧ n ≤ 1000 ∧ ∀ H' p', Upd a H H' → H p' = none → HallAt C H' a p' (List.replicate n 0) 0 → Q .non H'
theorem ok_begin (T : Txt K mg C) : MOk P w K mg base C 2 "begin" ["self", "sections"] (sp_begin C) := by
  refine T.d_begin.ok sc_begin (fun vs H Q E h => ?_) (fun f cdv A outer s H vs Q E hr h => ?_)
  · obtain ⟨a, p, r, t, n, rfl, _⟩ := h
    rfl
  · obtain ⟨a, p, r, t, n, rfl, hh, hn, q⟩ := h
    refine ⟨_, (pss_cons (ps_fld (pv 0) (pe_ok (ok_seated_ring T) (hr.mono (by decide)) (pa_cons (pv 1) pa_nil)) rfl)
      (pss_one (ps_fld (pv 0) pe_int rfl))), ?_⟩
    obtain ⟨⟨dx, g1⟩, g2⟩ := id hh
    refine q_fldL (el_call (ea_cons (ev_var rfl) ea_nil) (l_seated_ring hn)) (ev_var rfl) g1 T.cl T.nS (by show 2 < 1000; decide) fun p' H1 hp e1 h1 => ?_
    rw [put_states]
    refine s_fldV (v := vN 0) ev_c (ev_var rfl) upd_same T.cl T.nT (by show 2 < 1000; decide) fun H2 e2 => ?_
    rw [put_time]
    have hne : p' ≠ a := fun z => by
      rw [z, g1] at hp
      cases hp
    exact q _ p' (((Upd.of_ex e1).trans (Upd.put.trans (.of_ex e2))).trans .put) hp (HallAt.put hh hp (e2 _ _ (by rw [upd_ne hne]; exact h1)) dx)
def sp_put_ring (K : PySem.W.Frag) (C : Addr) : Sp := fun vs H Q _ => ∃ (a p l : Addr) (r r2 : Ring) (t : Nat), vs = [.ref a, .ref l] ∧ HallAt C H a p r t ∧ SqL K H l (vNs r2) ∧ ∀ H' p', Upd a H H' → H p' = none → HallAt C H' a p' r2 t → Q .non H'
theorem ok_put_ring (T : Txt K mg C) : MOk P w K mg base C 1 "put_ring" ["self", "states"] (sp_put_ring K C) := by
  refine T.d_put_ring.ok sc_put_ring (fun vs H Q E h => ?_) (fun f cdv A outer s H vs Q E hr h => ?_)
  · obtain ⟨a, p, l, r, r2, t, rfl, _⟩ := h
    rfl
  · obtain ⟨a, p, l, r, r2, t, rfl, hh, hS, q⟩ := h
    refine ⟨_, (pss_one (ps_fld (pv 0) (pe_callTy call_list_of (by rfl) T.z_list boot_list (pa_cons (pv 1) pa_nil)) rfl)), ?_⟩
    obtain ⟨⟨dx, g1⟩, g2⟩ := id hh
    refine s_fldL (el_list (ev_var rfl) hS) (ev_var rfl) g1 T.cl T.nS (by show 2 < 1000; decide) fun p' H1 hp e1 h1 => ?_
    rw [put_states]
    exact q _ p' ((Upd.of_ex e1).trans .put) hp (HallAt.put hh hp h1 dx)
def sp_pass_steps (C : Addr) : Sp := fun vs H Q _ => ∃ (a p : Addr) (r : Ring) (t k : Nat), vs = [.ref a, vN k] ∧ HallAt C H a p r t ∧ r.length ≤ 1000 ∧ k ≤ 1000 ∧ ∀ H' p', Upd a H H' → H p' = none → HallAt C H' a p' (ringAfter r k) (t + k) → Q .non H'
theorem ok_pass_steps (T : Txt K mg C) : MOk P w K mg base C 4 "pass_steps" ["self", "steps"] (sp_pass_steps C) := by
  refine T.d_pass_steps.ok sc_pass_steps (fun vs H Q E h => ?_) (fun f cdv A outer s H vs Q E hr h => ?_)
  · obtain ⟨a, p, r, t, k, rfl, _⟩ := h
    rfl
  · obtain ⟨a, p, r, t, k, rfl, hh, hl, hk, q⟩ := h
    refine ⟨_, (pss_cons (ps_fld (pv 0) (pe_ok (ok_after_steps T) (hr.mono (by decide)) (pa_cons (pe_fld (pv 0) rfl) (pa_cons (pv 1) pa_nil))) rfl)
      (pss_one (ps_fld (pv 0) (pe_op op_add (pe_fld (pv 0) rfl) (pv 1)) rfl))), ?_⟩
    obtain ⟨⟨dx, g1⟩, g2⟩ := id hh
    refine q_fldL (el_call (ea_cons (ev_states (ev_var rfl) hh T.cl T.nS) (ea_cons (ev_var rfl) ea_nil)) (l_after_steps hh.sq hl hk)) (ev_var rfl) g1 T.cl T.nS (by show 2 < 1000; decide) fun p' H1 hp e1 h1 => ?_
    rw [put_states]
    have hne : p' ≠ a := fun z => by
      rw [z, g1] at hp
      cases hp
    refine s_fldV (v := vN (t + k)) (ev_N (ev_add (ev_fld (v := vN t) (ev_var rfl) upd_same T.cl T.nT (hall_time _ _)) (ev_var rfl)) rfl) (ev_var rfl) upd_same T.cl T.nT (by show 2 < 1000; decide) fun H2 e2 => ?_
    rw [put_time]
    exact q _ p' (((Upd.of_ex e1).trans (Upd.put.trans (.of_ex e2))).trans .put) hp (HallAt.put hh hp (e2 _ _ (by rw [upd_ne hne]; exact h1)) dx)
end
end Sw
/-! The operations that change the simulator. -/
namespace Sw
open PySem PySem.Spec PyProof.Rows L2 Evl
open Kv439 (Ring nextRing ringAfter stateAt previousState standing Simulator Operation Response)
open Kv439Neutral (resultRow)

/-- what an operation must leave and hand back -/
def Done (C a p : Addr) (s : Simulator) (o : Operation) (H : Hp) (Q : VK) : Prop := RetC C a p (s.run o).1.ring (s.run o).1.time (resultRow (s.run o).2) H Q
theorem Done.ex {C a p : Addr} {s : Simulator} {o : Operation} {H H' : Hp} {Q : VK} (h : Done C a p s o H Q) (e : Ex H H') : Done C a p s o H' Q := RetC.ex h e
theorem Done.is {C a p : Addr} {s s2 : Simulator} {o : Operation} {H : Hp} {Q : VK} {z : Response} (h : Done C a p s o H Q) (e : s.run o = (s2, z)) : RetC C a p s2.ring s2.time (resultRow z) H Q := by
  unfold Done at h
  rw [e] at h
  exact h
theorem row_error (i : Int) : (resultRow (Response.error i)).map V.int = [V.int i] := rfl
theorem row_number (n : Nat) : (resultRow (Response.number n)).map V.int = [vN n] := rfl
/-- a ring that a simulator may have -/
def Fits (r : Ring) : Prop := 3 ≤ r.length ∧ r.length ≤ 12
theorem Fits.le {r : Ring} (h : Fits r) : r.length ≤ 1000 := by
  have := h.2
  omega
theorem Fits.pos {r : Ring} (h : Fits r) : 0 < r.length := by
  have := h.1
  omega

section
variable {P : Program} {w : World} {K : PySem.W.Frag} {mg : Str → Option Value} {base : Heap} {C : Addr}

/-! ### create -/
def sp_create (C : Addr) : Sp := fun vs H Q _ => ∃ (a p : Addr) (r : Ring) (t n : Nat), vs = [.ref a, vN n] ∧ HallAt C H a p r t ∧ (if n < 3 ∨ 12 < n then RetC C a p r t [-22] H Q else RetC C a p (List.replicate n 0) 0 [0] H Q)
theorem ok_create (T : Txt K mg C) : Ok P w K mg base 3 "create" ["hall", "sections"] (sp_create C) := by
  refine T.d_create.ok sc_create (fun vs H Q E h => ?_) (fun f cdv A outer s H vs Q E hr h => ?_)
  · obtain ⟨a, p, r, t, n, rfl, _⟩ := h
    rfl
  · obtain ⟨a, p, r, t, n, rfl, hh, q⟩ := h
    refine ⟨_, (pss_cons (ps_if (PW.pt (pw_or (pt_cmpR op_lt (pv 1) (pe_con_ T.c_LEAST_SECTIONS) (nomark _)) (pw_or1 (pt_cmpR op_gt (pv 1) (pe_con_ T.c_MOST_SECTIONS) (nomark _)))))
      (pss_one (ps_ret (pe_lst (pa_cons (pe_con_ T.c_OUT_OF_RANGE) pa_nil)))) pss_nil)
      (pss_cons (ps_expr (pe_mok (pv 0) T.cl (ok_begin T) (hr.mono (by decide)) (pa_cons (pv 1) pa_nil)))
      (pss_one (ps_ret (pe_lst (pa_cons pe_int pa_nil)))))), ?_⟩
    refine q_when (et_or (et_lt (m := n) (n := 3) (ev_var rfl) ev_c) fun _ => et_gt (m := n) (n := 12) (ev_var rfl) ev_c) (fun c H1 e1 => ?_) fun c H1 e1 => ?_
    · rw [Bool.or_eq_true, decide_eq_true_eq, decide_eq_true_eq] at c
      rw [if_pos c] at q
      exact s_retL (el_one ev_c) ((q.ex e1).retL (hh.mono e1))
    · rw [Bool.or_eq_false_iff, decide_eq_false_iff_not, decide_eq_false_iff_not] at c
      rw [if_neg (fun z => z.elim c.1 c.2)] at q
      refine q_methV (v := vN n) (ev_var rfl) (hh.mono e1) (by decide +kernel) (by decide +kernel) (ev_var rfl) fun H2 e2 => ?_
      have e12 := e1.trans e2
      refine ⟨a, p, r, t, n, rfl, hh.mono e12, by omega, fun H3 p' u hp h3 => ?_⟩
      exact s_retL (el_one ev_c) ((q.ex e12).back u hp h3)
/-! ### set_section -/
def sp_set_section (C : Addr) : Sp := fun vs H Q _ => ∃ (a p : Addr) (s : Simulator) (i x : Nat), vs = [.ref a, vN i, vN x] ∧ HallAt C H a p s.ring s.time ∧ Done C a p s (.setSection i x) H Q
theorem ok_set_section (T : Txt K mg C) : Ok P w K mg base 2 "set_section" ["hall", "section", "state"] (sp_set_section C) := by
  refine T.d_set_section.ok sc_set_section (fun vs H Q E h => ?_) (fun f cdv A outer s0 H vs Q E hr h => ?_)
  · obtain ⟨a, p, s, i, x, rfl, _⟩ := h
    rfl
  · obtain ⟨a, p, s, i, x, rfl, hh, q⟩ := h
    refine ⟨_, (pss_cons (ps_if (pt_cmpR op_ge (pv 1) (pe_callB call_len_seq (by rfl) T.z_len PySem.boot_len (pa_cons (pe_fld (pv 0) rfl) pa_nil)) (nomark _))
      (pss_one (ps_ret (pe_lst (pa_cons (pe_con_ T.c_NO_SECTION) pa_nil)))) pss_nil)
      (pss_cons (ps_if (pt_cmpR op_ge (pv 2) (pe_con_ T.c_STATES) (nomark _))
      (pss_one (ps_ret (pe_lst (pa_cons (pe_con_ T.c_OUT_OF_RANGE) pa_nil)))) pss_nil)
      (pss_cons (ps_set (i := 3) sc_set_section.nd rfl (Or.inl rfl) (pe_ix ix_list (pe_fld (pv 0) rfl) (pv 1) (fun _ _ => rfl)))
      (pss_cons (ps_expr (pe_mok (pv 0) T.cl (ok_put_ring T) (hr.mono (by decide)) (pa_cons (pe_ok (ok_with_state T) (hr.mono (by decide)) (pa_cons (pe_fld (pv 0) rfl) (pa_cons (pv 1) (pa_cons (pv 2) pa_nil)))) pa_nil)))
      (pss_one (ps_ret (pe_lst (pa_cons (pv 3) pa_nil)))))))), ?_⟩
    refine q_when (et_ge (m := i) (n := s.ring.length) (ev_var rfl) (ev_lenR (ev_states (ev_var rfl) hh T.cl T.nS) hh.sq)) (fun c H1 e1 => ?_) fun c H1 e1 => ?_
    · exact s_retL (el_one ev_c) (((q.is (if_pos (of_decide_eq_true c))).ex e1).retL (hh.mono e1))
    have c1 := of_decide_eq_false c
    have h1 := hh.mono e1
    refine q_when (et_ge (m := x) (n := 3) (ev_var rfl) ev_c) (fun c H2 e2 => ?_) fun c H2 e2 => ?_
    · exact s_retL (el_one ev_c) (((q.is ((if_neg c1).trans (if_pos (of_decide_eq_true c)))).ex (e1.trans e2)).retL (h1.mono e2))
    have c2 := of_decide_eq_false c
    have q' := q.is ((if_neg c1).trans (if_neg c2))
    have hi : i < s.ring.length := Nat.lt_of_not_le c1
    have h2 := h1.mono e2
    refine q_asg (ev_ixN (ev_states (ev_var rfl) h2 T.cl T.nS) (ev_var rfl) h2.sq (get_stateAt hi)) fun H3 e3 => ?_
    have h3 := h2.mono e3
    refine q_methL (ev_var rfl) h3 (by decide +kernel) (by decide +kernel) (el_call (ea_cons (ev_states (ev_var rfl) h3 T.cl T.nS) (ea_cons (ev_var rfl) (ea_cons (ev_var rfl) ea_nil))) (l_with_state h3.sq hi)) fun l H4 e4 h4 => ?_
    refine ⟨a, p, l, s.ring, _, s.time, rfl, h3.mono e4, sq_of h4, fun H5 p' u hp h5 => ?_⟩
    exact s_retL (el_one (ev_var rfl)) ((q'.ex (((e1.trans e2).trans e3).trans e4)).back u hp h5)
/-! ### are_states, set_all -/
def big (x : Nat) : Bool := decide (2 < x)
def sp_are_states (K : PySem.W.Frag) : Sp := fun vs H Q _ => ∃ (a : Addr) (r : Ring), vs = [.ref a] ∧ SqL K H a (vNs r) ∧ RetV (.bl (!r.any big)) H Q
theorem v_are_states {H : Hp} {a : Addr} {r : Ring} (h : SqL K H a (vNs r)) : SpV (sp_are_states K) [.ref a] H (.bl (!r.any big)) := fun _ e _ q _ => ⟨a, r, rfl, ex_l e h, q⟩
theorem ok_are_states (T : Txt K mg C) : Ok P w K mg base 1 "are_states" ["states"] (sp_are_states K) := by
  refine T.d_are_states.ok sc_are_states (fun vs H Q E h => ?_) (fun f cdv A outer s0 H vs Q E hr h => ?_)
  · obtain ⟨a, r, rfl, _⟩ := h
    rfl
  · obtain ⟨a, r, rfl, hS, q⟩ := h
    refine ⟨_, (pss_cons (ps_for PassesOwn.never rfl (pi_list (pv 0)) (pg_name (i := 1) sc_are_states.nd rfl (Or.inl rfl))
      (pss_one (ps_if (pt_cmpR op_ge (pv 1) (pe_con_ T.c_STATES) (nomark _))
      (pss_one (ps_ret pe_bl)) pss_nil)))
      (pss_one (ps_ret pe_bl))), ?_⟩
    refine q_forLn (xs := vNs r) (ev_var rfl) hS (fun i σ' H' => ∃ v1 : Option V, σ' = [some (.ref a), v1] ∧ Ex H H' ∧ ∀ (j x : Nat), j < i → r[j]? = some x → big x = false)
      (fun H2 e2 => ⟨none, rfl, e2, fun j x hj => absurd hj (Nat.not_lt_zero j)⟩) (fun i σ' H' _ ⟨_, _, e2, _⟩ => ex_l e2 hS) (fun i x σ' H2 hx p => ?_) (fun σ' H2 p => ?_)
    · obtain ⟨v1, rfl, e2, hb⟩ := p
      obtain ⟨y, hy, rfl⟩ := vNs_of hx
      refine s_when (et_ge (m := y) (n := 3) (ev_var rfl) ev_c) (fun c H3 e3 => ?_) fun c H3 e3 => ?_
      · have e : r.any big = true := List.any_eq_true.mpr ⟨y, List.mem_of_getElem? hy, c⟩
        rw [e] at q
        exact q H3 (e2.trans e3)
      · refine ⟨_, rfl, e2.trans e3, fun j z hj hz => ?_⟩
        by_cases hji : j < i
        · exact hb j z hji hz
        · obtain rfl : j = i := by omega
          rw [hy] at hz
          rw [← Option.some.inj hz]
          exact c
    · obtain ⟨v1, rfl, e2, hb⟩ := p
      rw [vNs_length] at hb
      have e : r.any big = false := by
        rw [List.any_eq_false]
        intro x hx
        obtain ⟨j, hj, ej⟩ := List.mem_iff_getElem.mp hx
        rw [hb j x hj (by rw [List.getElem?_eq_getElem hj, ej])]
        exact Bool.false_ne_true
      rw [e] at q
      exact q H2 e2
def sp_set_all (K : PySem.W.Frag) (C : Addr) : Sp := fun vs H Q _ => ∃ (a p l : Addr) (s : Simulator) (r : Ring), vs = [.ref a, .ref l] ∧ HallAt C H a p s.ring s.time ∧ SqL K H l (vNs r) ∧ Done C a p s (.setAll r) H Q
theorem ok_set_all (T : Txt K mg C) : Ok P w K mg base 2 "set_all" ["hall", "states"] (sp_set_all K C) := by
  refine T.d_set_all.ok sc_set_all (fun vs H Q E h => ?_) (fun f cdv A outer s0 H vs Q E hr h => ?_)
  · obtain ⟨a, p, l, s, r, rfl, _⟩ := h
    rfl
  · obtain ⟨a, p, l, s, r, rfl, hh, hS, q⟩ := h
    refine ⟨_, (pss_cons (ps_if (PW.pt (pw_or (pt_cmpR op_ne (pe_callB call_len_seq (by rfl) T.z_len PySem.boot_len (pa_cons (pv 1) pa_nil)) (pe_callB call_len_seq (by rfl) T.z_len PySem.boot_len (pa_cons (pe_fld (pv 0) rfl) pa_nil)) (nomark _)) (pw_or1 (pt_not (pt_val (pe_ok (ok_are_states T) (hr.mono (by decide)) (pa_cons (pv 1) pa_nil)))))))
      (pss_one (ps_ret (pe_lst (pa_cons (pe_con_ T.c_OUT_OF_RANGE) pa_nil)))) pss_nil)
      (pss_cons (ps_expr (pe_mok (pv 0) T.cl (ok_put_ring T) (hr.mono (by decide)) (pa_cons (pv 1) pa_nil)))
      (pss_one (ps_ret (pe_lst (pa_cons pe_int pa_nil)))))), ?_⟩
    refine q_when (et_or (et_ne (m := r.length) (n := s.ring.length) (ev_lenR (ev_var rfl) hS) (ev_lenR (ev_states (ev_var rfl) hh T.cl T.nS) hh.sq)) fun _ => et_not (et_B (ev_call (ea_cons (ev_var rfl) ea_nil) (v_are_states hS)))) (fun c H1 e1 => ?_) fun c H1 e1 => ?_
    · have c1 : r.length ≠ s.sections ∨ r.any (fun state => decide (2 < state)) = true := by
        rw [Bool.or_eq_true, Bool.not_not, Bool.not_eq_true', decide_eq_false_iff_not] at c
        exact c
      exact s_retL (el_one ev_c) (((q.is (if_pos c1)).ex e1).retL (hh.mono e1))
    have c1 : ¬ (r.length ≠ s.sections ∨ r.any (fun state => decide (2 < state)) = true) := by
      rw [Bool.or_eq_false_iff, Bool.not_not, Bool.not_eq_false', decide_eq_true_eq] at c
      rintro (z | z)
      · exact z c.1
      · have z2 : r.any big = true := z
        rw [c.2] at z2
        cases z2
    have q' := q.is (if_neg c1)
    have h1 := hh.mono e1
    refine q_methV (v := .ref l) (ev_var rfl) h1 (by decide +kernel) (by decide +kernel) (ev_var rfl) fun H2 e2 => ?_
    have e12 := e1.trans e2
    refine ⟨a, p, l, s.ring, r, s.time, rfl, hh.mono e12, ex_l e12 hS, fun H5 p' u hp h5 => ?_⟩
    exact s_retL (el_one ev_c) ((q'.ex e12).back u hp h5)
/-! ### stand_up -/
def sp_stand_up (C : Addr) : Sp := fun vs H Q _ => ∃ (a p : Addr) (s : Simulator) (i : Nat), vs = [.ref a, vN i] ∧ HallAt C H a p s.ring s.time ∧ Done C a p s (.standUp i) H Q
theorem ok_stand_up (T : Txt K mg C) : Ok P w K mg base 3 "stand_up" ["hall", "section"] (sp_stand_up C) := by
  refine T.d_stand_up.ok sc_stand_up (fun vs H Q E h => ?_) (fun f cdv A outer s0 H vs Q E hr h => ?_)
  · obtain ⟨a, p, s, i, rfl, _⟩ := h
    rfl
  · obtain ⟨a, p, s, i, rfl, hh, q⟩ := h
    refine ⟨_, (pss_cons (ps_if (pt_cmpR op_ge (pv 1) (pe_callB call_len_seq (by rfl) T.z_len PySem.boot_len (pa_cons (pe_fld (pv 0) rfl) pa_nil)) (nomark _))
      (pss_one (ps_ret (pe_lst (pa_cons (pe_con_ T.c_NO_SECTION) pa_nil)))) pss_nil)
      (pss_cons (ps_if (pt_cmpR op_ne (pe_ix ix_list (pe_fld (pv 0) rfl) (pv 1) (fun _ _ => rfl)) (pe_con_ T.c_SEATED) (nomark _))
      (pss_one (ps_ret (pe_lst (pa_cons (pe_con_ T.c_NOT_SEATED) pa_nil)))) pss_nil)
      (pss_cons (ps_expr (pe_mok (pv 0) T.cl (ok_put_ring T) (hr.mono (by decide)) (pa_cons (pe_ok (ok_with_state T) (hr.mono (by decide)) (pa_cons (pe_fld (pv 0) rfl) (pa_cons (pv 1) (pa_cons (pe_con_ T.c_STANDING) pa_nil)))) pa_nil)))
      (pss_one (ps_ret (pe_lst (pa_cons (pe_ok (ok_count_standing T) (hr.mono (by decide)) (pa_cons (pe_fld (pv 0) rfl) pa_nil)) pa_nil))))))), ?_⟩
    refine q_when (et_ge (m := i) (n := s.ring.length) (ev_var rfl) (ev_lenR (ev_states (ev_var rfl) hh T.cl T.nS) hh.sq)) (fun c H1 e1 => ?_) fun c H1 e1 => ?_
    · exact s_retL (el_one ev_c) (((q.is (if_pos (of_decide_eq_true c))).ex e1).retL (hh.mono e1))
    have c1 := of_decide_eq_false c
    have hi : i < s.ring.length := Nat.lt_of_not_le c1
    have h1 := hh.mono e1
    refine q_when (et_ne (m := stateAt s.ring i) (n := 0) (ev_ixN (ev_states (ev_var rfl) h1 T.cl T.nS) (ev_var rfl) h1.sq (get_stateAt hi)) ev_c) (fun c H2 e2 => ?_) fun c H2 e2 => ?_
    · rw [Bool.not_eq_true', decide_eq_false_iff_not] at c
      exact s_retL (el_one ev_c) (((q.is ((if_neg c1).trans (if_pos c))).ex (e1.trans e2)).retL (h1.mono e2))
    rw [Bool.not_eq_false', decide_eq_true_eq] at c
    have q' := q.is ((if_neg c1).trans (if_neg (fun z => z c)))
    have h2 := h1.mono e2
    refine q_methL (ev_var rfl) h2 (by decide +kernel) (by decide +kernel) (el_call (ea_cons (ev_states (ev_var rfl) h2 T.cl T.nS) (ea_cons (ev_var rfl) (ea_cons ev_c ea_nil))) (l_with_state (x := 1) h2.sq hi)) fun l H4 e4 h4 => ?_
    refine ⟨a, p, l, s.ring, _, s.time, rfl, h2.mono e4, sq_of h4, fun H5 p' u hp h5 => ?_⟩
    exact s_retL (el_one (ev_call (ea_cons (ev_states (ev_var rfl) h5 T.cl T.nS) ea_nil) (v_count_standing h5.sq))) ((q'.ex ((e1.trans e2).trans e4)).back u hp h5)
/-! ### is_free, section_behind, start_wave -/
def free (r : Ring) (i : Nat) : Bool := [(i + r.length - 1) % r.length, i, (i + 1) % r.length].all fun k => stateAt r k == 0
theorem free_iff (r : Ring) (i : Nat) : free r i = true ↔ ¬ (stateAt r i ≠ 0 ∨ previousState r i ≠ 0 ∨ stateAt r (i + 1) ≠ 0) := by
  unfold free previousState
  simp only [List.all_cons, List.all_nil, Bool.and_true, Bool.and_eq_true, beq_iff_eq, stateAt_mod]
  omega
def sp_is_free (K : PySem.W.Frag) : Sp := fun vs H Q _ => ∃ (a : Addr) (r : Ring) (i : Nat), vs = [.ref a, vN i] ∧ SqL K H a (vNs r) ∧ i < r.length ∧ RetV (.bl (free r i)) H Q
theorem v_is_free {H : Hp} {a : Addr} {r : Ring} {i : Nat} (h : SqL K H a (vNs r)) (hi : i < r.length) : SpV (sp_is_free K) [.ref a, vN i] H (.bl (free r i)) := fun _ e _ q _ => ⟨a, r, i, rfl, ex_l e h, hi, q⟩
theorem ok_is_free (T : Txt K mg C) : Ok P w K mg base 2 "is_free" ["states", "section"] (sp_is_free K) := by
  refine T.d_is_free.ok sc_is_free (fun vs H Q E h => ?_) (fun f cdv A outer s0 H vs Q E hr h => ?_)
  · obtain ⟨a, r, i, rfl, _⟩ := h
    rfl
  · obtain ⟨a, r, i, rfl, hS, hi, q⟩ := h
    refine ⟨_, (pss_cons (ps_set (i := 2) sc_is_free.nd rfl (Or.inl rfl) (pe_callB call_len_seq (by rfl) T.z_len PySem.boot_len (pa_cons (pv 0) pa_nil)))
      (pss_cons (ps_for PassesOwn.never rfl (pi_tup (pe_tup (pa_cons (pe_ok (ok_section_before T) (hr.mono (by decide)) (pa_cons (pv 2) (pa_cons (pv 1) pa_nil))) (pa_cons (pv 1) (pa_cons (pe_ok (ok_section_after T) (hr.mono (by decide)) (pa_cons (pv 2) (pa_cons (pv 1) pa_nil))) pa_nil))))) (pg_name (i := 3) sc_is_free.nd rfl (Or.inl rfl))
      (pss_one (ps_if (pt_cmpR op_ne (pe_ix ix_list (pv 0) (pv 3) (fun _ _ => rfl)) (pe_con_ T.c_SEATED) (nomark _))
      (pss_one (ps_ret pe_bl)) pss_nil)))
      (pss_one (ps_ret pe_bl)))), ?_⟩
    have hn : 0 < r.length := by omega
    refine q_asg (ev_lenR (ev_var rfl) hS) fun H1 e1 => ?_
    refine q_forNT (eu_tup (ea_cons (ev_call (ea_cons (ev_var rfl) (ea_cons (ev_var rfl) ea_nil)) (v_section_before hn)) (ea_cons (ev_var rfl) (ea_cons (ev_call (ea_cons (ev_var rfl) (ea_cons (ev_var rfl) ea_nil)) (v_section_after hn)) ea_nil))) (by show 3 ≤ 100000; decide)) fun tp H2 e2 h2 => ?_
    have hks : ([vN ((i + r.length - 1) % r.length), vN i, vN ((i + 1) % r.length)] : List V) = vNs [(i + r.length - 1) % r.length, i, (i + 1) % r.length] := rfl
    rw [hks] at h2
    refine ⟨(fun m σ' H' => ∃ v3 : Option V, σ' = [some (.ref a), some (vN i), some (vN r.length), v3] ∧ Ex H2 H' ∧ ∀ (j x : Nat), j < m → [(i + r.length - 1) % r.length, i, (i + 1) % r.length][j]? = some x → stateAt r x = 0),
      ⟨none, rfl, Ex.refl _, fun j x hj => absurd hj (Nat.not_lt_zero j)⟩, (fun i σ' H' _ ⟨_, _, e3, _⟩ => st_of (e3 _ _ h2)), (fun m x σ' H3 hx p => ?_), (fun σ' H3 p => ?_)⟩
    · obtain ⟨v3, rfl, e3, hb⟩ := p
      rw [hks] at hx
      obtain ⟨y, hy, rfl⟩ := vNs_of hx
      have hyl : y < r.length := by
        have hm := List.mem_of_getElem? hy
        simp only [List.mem_cons, List.not_mem_nil, or_false] at hm
        rcases hm with z | z | z
        · rw [z]
          exact Nat.mod_lt _ hn
        · omega
        · rw [z]
          exact Nat.mod_lt _ hn
      have e13 := (e1.trans e2).trans e3
      refine s_when (et_ne (m := stateAt r y) (n := 0) (ev_ixN (ev_var rfl) (ev_var rfl) (ex_l e13 hS) (get_stateAt hyl)) ev_c) (fun c H4 e4 => ?_) fun c H4 e4 => ?_
      · rw [Bool.not_eq_true', decide_eq_false_iff_not] at c
        have e : free r i = false := by
          unfold free
          rw [List.all_eq_false]
          exact ⟨y, List.mem_of_getElem? hy, by rw [beq_iff_eq]; exact c⟩
        rw [e] at q
        exact q H4 (e13.trans e4)
      · rw [Bool.not_eq_false', decide_eq_true_eq] at c
        refine ⟨_, rfl, e3.trans e4, fun j z hj hz => ?_⟩
        by_cases hji : j < m
        · exact hb j z hji hz
        · obtain rfl : j = m := by omega
          rw [hy] at hz
          rw [← Option.some.inj hz]
          exact c
    · obtain ⟨v3, rfl, e3, hb⟩ := p
      have e : free r i = true := by
        unfold free
        rw [List.all_eq_true]
        intro x hx
        obtain ⟨j, hj, ej⟩ := List.mem_iff_getElem.mp hx
        rw [beq_iff_eq]
        exact hb j x hj (by rw [List.getElem?_eq_getElem hj, ej])
      rw [e] at q
      exact q H3 ((e1.trans e2).trans e3)
def behind (n i d : Nat) : Nat := if d = 0 then (i + n - 1) % n else (i + 1) % n
def sp_section_behind : Sp := fun vs H Q _ => ∃ n i d : Nat, vs = [vN n, vN i, vN d] ∧ 0 < n ∧ RetV (vN (behind n i d)) H Q
theorem v_section_behind {H : Hp} {n i d : Nat} (h : 0 < n) : SpV sp_section_behind [vN n, vN i, vN d] H (vN (behind n i d)) := fun _ _ _ q _ => ⟨n, i, d, rfl, h, q⟩
theorem ok_section_behind (T : Txt K mg C) : Ok P w K mg base 2 "section_behind" ["count", "section", "direction"] sp_section_behind := by
  refine T.d_section_behind.ok sc_section_behind (fun vs H Q E h => ?_) (fun f cdv A outer s0 H vs Q E hr h => ?_)
  · obtain ⟨n, i, d, rfl, _⟩ := h
    rfl
  · obtain ⟨n, i, d, rfl, hn, q⟩ := h
    refine ⟨_, (pss_cons (ps_if (pt_cmpR op_eq (pv 2) (pe_con_ T.c_TOWARDS_NEXT) (nomark _))
      (pss_one (ps_ret (pe_ok (ok_section_before T) (hr.mono (by decide)) (pa_cons (pv 0) (pa_cons (pv 1) pa_nil))))) pss_nil)
      (pss_one (ps_ret (pe_ok (ok_section_after T) (hr.mono (by decide)) (pa_cons (pv 0) (pa_cons (pv 1) pa_nil)))))), ?_⟩
    unfold behind at q
    refine q_when (et_eq (m := d) (n := 0) (ev_var rfl) ev_c) (fun c H1 e1 => ?_) fun c H1 e1 => ?_
    · rw [if_pos (of_decide_eq_true c)] at q
      exact s_ret (ev_call (ea_cons (ev_var rfl) (ea_cons (ev_var rfl) ea_nil)) (v_section_before hn)) fun H2 e2 => q H2 (e1.trans e2)
    · rw [if_neg (of_decide_eq_false c)] at q
      exact s_ret (ev_call (ea_cons (ev_var rfl) (ea_cons (ev_var rfl) ea_nil)) (v_section_after hn)) fun H2 e2 => q H2 (e1.trans e2)
def sp_start_wave (C : Addr) : Sp := fun vs H Q _ => ∃ (a p : Addr) (s : Simulator) (i d : Nat), vs = [.ref a, vN i, vN d] ∧ HallAt C H a p s.ring s.time ∧ Done C a p s (.startWave i d) H Q
theorem behind_lt {n i d : Nat} (h : 0 < n) : behind n i d < n := by
  unfold behind
  split <;> exact Nat.mod_lt _ h
theorem ok_start_wave (T : Txt K mg C) : Ok P w K mg base 3 "start_wave" ["hall", "section", "direction"] (sp_start_wave C) := by
  refine T.d_start_wave.ok sc_start_wave (fun vs H Q E h => ?_) (fun f cdv A outer s0 H vs Q E hr h => ?_)
  · obtain ⟨a, p, s, i, d, rfl, _⟩ := h
    rfl
  · obtain ⟨a, p, s, i, d, rfl, hh, q⟩ := h
    refine ⟨_, (pss_cons (ps_set (i := 3) sc_start_wave.nd rfl (Or.inl rfl) (pe_callB call_len_seq (by rfl) T.z_len PySem.boot_len (pa_cons (pe_fld (pv 0) rfl) pa_nil)))
      (pss_cons (ps_if (pt_cmpR op_ge (pv 1) (pv 3) (nomark _))
      (pss_one (ps_ret (pe_lst (pa_cons (pe_con_ T.c_NO_SECTION) pa_nil)))) pss_nil)
      (pss_cons (ps_if (pt_cmpR op_gt (pv 2) (pe_con_ T.c_MOST_DIRECTION) (nomark _))
      (pss_one (ps_ret (pe_lst (pa_cons (pe_con_ T.c_OUT_OF_RANGE) pa_nil)))) pss_nil)
      (pss_cons (ps_if (pt_not (pt_val (pe_ok (ok_is_free T) (hr.mono (by decide)) (pa_cons (pe_fld (pv 0) rfl) (pa_cons (pv 1) pa_nil)))))
      (pss_one (ps_ret (pe_lst (pa_cons (pe_con_ T.c_NOT_SEATED) pa_nil)))) pss_nil)
      (pss_cons (ps_set (i := 4) sc_start_wave.nd rfl (Or.inl rfl) (pe_ok (ok_with_state T) (hr.mono (by decide)) (pa_cons (pe_fld (pv 0) rfl) (pa_cons (pv 1) (pa_cons (pe_con_ T.c_STANDING) pa_nil)))))
      (pss_cons (ps_expr (pe_mok (pv 0) T.cl (ok_put_ring T) (hr.mono (by decide)) (pa_cons (pe_ok (ok_with_state T) (hr.mono (by decide)) (pa_cons (pv 4) (pa_cons (pe_ok (ok_section_behind T) (hr.mono (by decide)) (pa_cons (pv 3) (pa_cons (pv 1) (pa_cons (pv 2) pa_nil)))) (pa_cons (pe_con_ T.c_RESTING) pa_nil)))) pa_nil)))
      (pss_one (ps_ret (pe_lst (pa_cons (pe_ok (ok_count_standing T) (hr.mono (by decide)) (pa_cons (pe_fld (pv 0) rfl) pa_nil)) pa_nil)))))))))), ?_⟩
    refine q_asg (ev_lenR (ev_states (ev_var rfl) hh T.cl T.nS) hh.sq) fun H0 e0 => ?_
    have h0 := hh.mono e0
    refine q_when (et_ge (m := i) (n := s.ring.length) (ev_var rfl) (ev_var rfl)) (fun c H1 e1 => ?_) fun c H1 e1 => ?_
    · exact s_retL (el_one ev_c) (((q.is (if_pos (of_decide_eq_true c))).ex (e0.trans e1)).retL (h0.mono e1))
    have c1 := of_decide_eq_false c
    have hi : i < s.ring.length := Nat.lt_of_not_le c1
    have h1 := h0.mono e1
    refine q_when (et_gt (m := d) (n := 1) (ev_var rfl) ev_c) (fun c H2 e2 => ?_) fun c H2 e2 => ?_
    · exact s_retL (el_one ev_c) (((q.is ((if_neg c1).trans (if_pos (of_decide_eq_true c)))).ex ((e0.trans e1).trans e2)).retL (h1.mono e2))
    have c2 := of_decide_eq_false c
    have h2 := h1.mono e2
    refine q_when (et_not (et_B (ev_call (ea_cons (ev_states (ev_var rfl) h2 T.cl T.nS) (ea_cons (ev_var rfl) ea_nil)) (v_is_free h2.sq hi)))) (fun c H3 e3 => ?_) fun c H3 e3 => ?_
    · have c3 : stateAt s.ring i ≠ 0 ∨ previousState s.ring i ≠ 0 ∨ stateAt s.ring (i + 1) ≠ 0 := by
        refine Decidable.of_not_not fun z => ?_
        rw [(free_iff _ _).mpr z] at c
        cases c
      exact s_retL (el_one ev_c) (((q.is ((if_neg c1).trans ((if_neg c2).trans (if_pos c3)))).ex (((e0.trans e1).trans e2).trans e3)).retL (h2.mono e3))
    have c3 : ¬ (stateAt s.ring i ≠ 0 ∨ previousState s.ring i ≠ 0 ∨ stateAt s.ring (i + 1) ≠ 0) := (free_iff _ _).mp (by
      rw [Bool.not_eq_false'] at c
      exact c)
    have q' := q.is ((if_neg c1).trans ((if_neg c2).trans (if_neg c3)))
    have h3 := h2.mono e3
    refine q_asgL (el_call (ea_cons (ev_states (ev_var rfl) h3 T.cl T.nS) (ea_cons (ev_var rfl) (ea_cons ev_c ea_nil))) (l_with_state (x := 1) h3.sq hi)) fun l1 H4 hl1 e4 h4 => ?_
    have hn : 0 < s.ring.length := by omega
    refine q_methL (ev_var rfl) (h3.mono e4) (by decide +kernel) (by decide +kernel) (el_call (ea_cons (ev_var rfl) (ea_cons (ev_call (ea_cons (ev_var rfl) (ea_cons (ev_var rfl) (ea_cons (ev_var rfl) ea_nil))) (v_section_behind hn)) (ea_cons ev_c ea_nil)))
      (l_with_state (x := 2) (sq_of h4) (by rw [List.length_set]; exact behind_lt hn))) fun l H5 e5 h5 => ?_
    refine ⟨a, p, l, s.ring, _, s.time, rfl, h3.mono (e4.trans e5), sq_of h5, fun H6 p' u hp h6 => ?_⟩
    exact s_retL (el_one (ev_call (ea_cons (ev_states (ev_var rfl) h6 T.cl T.nS) ea_nil) (v_count_standing h6.sq))) ((q'.ex (((((e0.trans e1).trans e2).trans e3).trans e4).trans e5)).back u hp h6)
/-! ### step, advance -/
def sp_step (C : Addr) : Sp := fun vs H Q _ => ∃ (a p : Addr) (s : Simulator), vs = [.ref a] ∧ HallAt C H a p s.ring s.time ∧ Fits s.ring ∧ Done C a p s .step H Q
theorem ok_step (T : Txt K mg C) : Ok P w K mg base 5 "step" ["hall"] (sp_step C) := by
  refine T.d_step.ok sc_step (fun vs H Q E h => ?_) (fun f cdv A outer s0 H vs Q E hr h => ?_)
  · obtain ⟨a, p, s, rfl, _⟩ := h
    rfl
  · obtain ⟨a, p, s, rfl, hh, hf, q⟩ := h
    refine ⟨_, (pss_cons (ps_expr (pe_mok (pv 0) T.cl (ok_pass_steps T) (hr.mono (by decide)) (pa_cons pe_int pa_nil)))
      (pss_one (ps_ret (pe_lst (pa_cons (pe_ok (ok_count_standing T) (hr.mono (by decide)) (pa_cons (pe_fld (pv 0) rfl) pa_nil)) pa_nil))))), ?_⟩
    refine q_methV (v := vN 1) (ev_var rfl) hh (by decide +kernel) (by decide +kernel) ev_c fun H2 e2 => ?_
    refine ⟨a, p, s.ring, s.time, 1, rfl, hh.mono e2, hf.le, by decide, fun H5 p' u hp h5 => ?_⟩
    exact s_retL (el_one (ev_call (ea_cons (ev_states (ev_var rfl) h5 T.cl T.nS) ea_nil) (v_count_standing h5.sq))) (((q.is rfl).ex e2).back u hp h5)
def sp_advance (C : Addr) : Sp := fun vs H Q _ => ∃ (a p : Addr) (s : Simulator) (k : Nat), vs = [.ref a, vN k] ∧ HallAt C H a p s.ring s.time ∧ Fits s.ring ∧ Done C a p s (.advance k) H Q
theorem ok_advance (T : Txt K mg C) : Ok P w K mg base 5 "advance" ["hall", "steps"] (sp_advance C) := by
  refine T.d_advance.ok sc_advance (fun vs H Q E h => ?_) (fun f cdv A outer s0 H vs Q E hr h => ?_)
  · obtain ⟨a, p, s, k, rfl, _⟩ := h
    rfl
  · obtain ⟨a, p, s, k, rfl, hh, hf, q⟩ := h
    refine ⟨_, (pss_cons (ps_if (pt_cmpR op_gt (pv 1) (pe_con_ T.c_MOST_STEPS) (nomark _))
      (pss_one (ps_ret (pe_lst (pa_cons (pe_con_ T.c_OUT_OF_RANGE) pa_nil)))) pss_nil)
      (pss_cons (ps_expr (pe_mok (pv 0) T.cl (ok_pass_steps T) (hr.mono (by decide)) (pa_cons (pv 1) pa_nil)))
      (pss_one (ps_ret (pe_lst (pa_cons (pe_ok (ok_count_standing T) (hr.mono (by decide)) (pa_cons (pe_fld (pv 0) rfl) pa_nil)) pa_nil)))))), ?_⟩
    refine q_when (et_gt (m := k) (n := 40) (ev_var rfl) ev_c) (fun c H1 e1 => ?_) fun c H1 e1 => ?_
    · exact s_retL (el_one ev_c) (((q.is (if_pos (of_decide_eq_true c))).ex e1).retL (hh.mono e1))
    have c1 := of_decide_eq_false c
    have q' := q.is (if_neg c1)
    refine q_methV (v := vN k) (ev_var rfl) (hh.mono e1) (by decide +kernel) (by decide +kernel) (ev_var rfl) fun H2 e2 => ?_
    have e12 := e1.trans e2
    refine ⟨a, p, s.ring, s.time, k, rfl, hh.mono e12, hf.le, by omega, fun H5 p' u hp h5 => ?_⟩
    exact s_retL (el_one (ev_call (ea_cons (ev_states (ev_var rfl) h5 T.cl T.nS) ea_nil) (v_count_standing h5.sq))) ((q'.ex e12).back u hp h5)
/-! ### rotate, mirror, sit_down -/
theorem rotated_length (r : Ring) (d : Nat) : (Kv439.rotated r d).length = r.length := by
  unfold Kv439.rotated
  rw [List.length_map, List.length_range]
def sp_rotate (C : Addr) : Sp := fun vs H Q _ => ∃ (a p : Addr) (s : Simulator) (d : Nat), vs = [.ref a, vN d] ∧ HallAt C H a p s.ring s.time ∧ Fits s.ring ∧ Done C a p s (.rotate d) H Q
theorem ok_rotate (T : Txt K mg C) : Ok P w K mg base 2 "rotate" ["hall", "distance"] (sp_rotate C) := by
  refine T.d_rotate.ok sc_rotate (fun vs H Q E h => ?_) (fun f cdv A outer s0 H vs Q E hr h => ?_)
  · obtain ⟨a, p, s, d, rfl, _⟩ := h
    rfl
  · obtain ⟨a, p, s, d, rfl, hh, hf, q⟩ := h
    refine ⟨_, (pss_cons (ps_if (pt_cmpR op_gt (pv 1) (pe_con_ T.c_MOST_DISTANCE) (nomark _))
      (pss_one (ps_ret (pe_lst (pa_cons (pe_con_ T.c_OUT_OF_RANGE) pa_nil)))) pss_nil)
      (pss_cons (ps_expr (pe_mok (pv 0) T.cl (ok_put_ring T) (hr.mono (by decide)) (pa_cons (pe_ok (ok_rotated T) (hr.mono (by decide)) (pa_cons (pe_fld (pv 0) rfl) (pa_cons (pv 1) pa_nil))) pa_nil)))
      (pss_one (ps_ret (pe_lst (pa_cons (pe_callB call_len_seq (by rfl) T.z_len PySem.boot_len (pa_cons (pe_fld (pv 0) rfl) pa_nil)) pa_nil)))))), ?_⟩
    refine q_when (et_gt (m := d) (n := 12) (ev_var rfl) ev_c) (fun c H1 e1 => ?_) fun c H1 e1 => ?_
    · exact s_retL (el_one ev_c) (((q.is (if_pos (of_decide_eq_true c))).ex e1).retL (hh.mono e1))
    have q' := q.is (if_neg (of_decide_eq_false c))
    have h1 := hh.mono e1
    refine q_methL (ev_var rfl) h1 (by decide +kernel) (by decide +kernel) (el_call (ea_cons (ev_states (ev_var rfl) h1 T.cl T.nS) (ea_cons (ev_var rfl) ea_nil)) (l_rotated h1.sq hf.le)) fun l H4 e4 h4 => ?_
    refine ⟨a, p, l, s.ring, _, s.time, rfl, h1.mono e4, sq_of h4, fun H5 p' u hp h5 => ?_⟩
    exact s_retL (el_one (ev_is (ev_lenR (ev_states (ev_var rfl) h5 T.cl T.nS) h5.sq) (congrArg (fun n : Nat => vN n) (rotated_length _ _)))) ((q'.ex (e1.trans e4)).back u hp h5)
def sp_mirror (C : Addr) : Sp := fun vs H Q _ => ∃ (a p : Addr) (s : Simulator), vs = [.ref a] ∧ HallAt C H a p s.ring s.time ∧ Fits s.ring ∧ Done C a p s .mirror H Q
theorem ok_mirror (T : Txt K mg C) : Ok P w K mg base 2 "mirror" ["hall"] (sp_mirror C) := by
  refine T.d_mirror.ok sc_mirror (fun vs H Q E h => ?_) (fun f cdv A outer s0 H vs Q E hr h => ?_)
  · obtain ⟨a, p, s, rfl, _⟩ := h
    rfl
  · obtain ⟨a, p, s, rfl, hh, hf, q⟩ := h
    refine ⟨_, (pss_cons (ps_expr (pe_mok (pv 0) T.cl (ok_put_ring T) (hr.mono (by decide)) (pa_cons (pe_ok (ok_mirrored T) (hr.mono (by decide)) (pa_cons (pe_fld (pv 0) rfl) pa_nil)) pa_nil)))
      (pss_one (ps_ret (pe_lst (pa_cons (pe_callB call_len_seq (by rfl) T.z_len PySem.boot_len (pa_cons (pe_fld (pv 0) rfl) pa_nil)) pa_nil))))), ?_⟩
    refine q_methL (ev_var rfl) hh (by decide +kernel) (by decide +kernel) (el_call (ea_cons (ev_states (ev_var rfl) hh T.cl T.nS) ea_nil) (l_mirrored hh.sq hf.le)) fun l H4 e4 h4 => ?_
    refine ⟨a, p, l, s.ring, _, s.time, rfl, hh.mono e4, sq_of h4, fun H5 p' u hp h5 => ?_⟩
    exact s_retL (el_one (ev_is (ev_lenR (ev_states (ev_var rfl) h5 T.cl T.nS) h5.sq) (congrArg (fun n : Nat => vN n) List.length_reverse))) (((q.is rfl).ex e4).back u hp h5)
def sp_sit_down (C : Addr) : Sp := fun vs H Q _ => ∃ (a p : Addr) (s : Simulator), vs = [.ref a] ∧ HallAt C H a p s.ring s.time ∧ Fits s.ring ∧ Done C a p s .sitDown H Q
theorem ok_sit_down (T : Txt K mg C) : Ok P w K mg base 2 "sit_down" ["hall"] (sp_sit_down C) := by
  refine T.d_sit_down.ok sc_sit_down (fun vs H Q E h => ?_) (fun f cdv A outer s0 H vs Q E hr h => ?_)
  · obtain ⟨a, p, s, rfl, _⟩ := h
    rfl
  · obtain ⟨a, p, s, rfl, hh, hf, q⟩ := h
    refine ⟨_, (pss_cons (ps_set (i := 1) sc_sit_down.nd rfl (Or.inl rfl) (pe_callB call_len_seq (by rfl) T.z_len PySem.boot_len (pa_cons (pe_fld (pv 0) rfl) pa_nil)))
      (pss_cons (ps_set (i := 2) sc_sit_down.nd rfl (Or.inl rfl) (pe_op op_sub (pv 1) (pe_ok (ok_count_state T) (hr.mono (by decide)) (pa_cons (pe_fld (pv 0) rfl) (pa_cons (pe_con_ T.c_SEATED) pa_nil)))))
      (pss_cons (ps_expr (pe_mok (pv 0) T.cl (ok_put_ring T) (hr.mono (by decide)) (pa_cons (pe_ok (ok_seated_ring T) (hr.mono (by decide)) (pa_cons (pv 1) pa_nil)) pa_nil)))
      (pss_one (ps_ret (pe_lst (pa_cons (pv 2) pa_nil))))))), ?_⟩
    have q' := q.is rfl
    rw [← cnt_rest] at q'
    have hc := cnt_le s.ring 0
    refine q_asg (ev_lenR (ev_states (ev_var rfl) hh T.cl T.nS) hh.sq) fun H1 e1 => ?_
    have h1 := hh.mono e1
    refine q_asg (ev_N (n := s.ring.length - cnt s.ring 0) (ev_sub (ev_var rfl) (ev_call (ea_cons (ev_states (ev_var rfl) h1 T.cl T.nS) (ea_cons ev_c ea_nil)) (v_count_state (s := 0) h1.sq))) (by omega)) fun H2 e2 => ?_
    have h2 := h1.mono e2
    refine q_methL (ev_var rfl) h2 (by decide +kernel) (by decide +kernel) (el_call (ea_cons (ev_var rfl) ea_nil) (l_seated_ring hf.le)) fun l H4 e4 h4 => ?_
    refine ⟨a, p, l, s.ring, _, s.time, rfl, h2.mono e4, sq_of h4, fun H5 p' u hp h5 => ?_⟩
    exact s_retL (el_one (ev_var rfl)) ((q'.ex ((e1.trans e2).trans e4)).back u hp h5)
end
end Sw
/-! The operations that change nothing. -/
namespace Sw
open PySem PySem.Spec PyProof.Rows L2 Evl
open Kv439 (Ring nextRing ringAfter stateAt previousState standing Simulator Operation Response stepsUntilQuiet trajectory maxSteps forwardWaves backwardWaves windingNumber)
open Kv439Neutral (resultRow)

/-- what a query must hand back -/
def Ask (s : Simulator) (o : Operation) (H : Hp) (Q : VK) : Prop := RetL ((resultRow (s.run o).2).map V.int) H Q
theorem Ask.ex {s : Simulator} {o : Operation} {H H' : Hp} {Q : VK} (h : Ask s o H Q) (e : Ex H H') : Ask s o H' Q := fun p H2 hp e2 h2 => h p H2 (fresh_back e hp) (e.trans e2) h2
theorem Ask.is {s s2 : Simulator} {o : Operation} {H : Hp} {Q : VK} {z : Response} (h : Ask s o H Q) (e : s.run o = (s2, z)) : RetL ((resultRow z).map V.int) H Q := by
  unfold Ask at h
  rw [e] at h
  exact h
theorem row_list (l : List Nat) : (resultRow (Response.list l)).map V.int = vNs (l.length :: l) := by
  show V.int (l.length : Int) :: (l.map Int.ofNat).map V.int = vN l.length :: vNs l
  rw [← vNs_ints]
theorem row_optional (n : Option Nat) : resultRow (Response.optional n) = [optInt n] := by
  cases n <;> rfl

section
variable {P : Program} {w : World} {K : PySem.W.Frag} {mg : Str → Option Value} {base : Heap} {C : Addr}

/-! ### counted -/
def sp_counted (K : PySem.W.Frag) : Sp := fun vs H Q _ => ∃ (a : Addr) (r : List Nat), vs = [.ref a] ∧ SqL K H a (vNs r) ∧ r.length ≤ 1000 ∧ RetL (vNs (r.length :: r)) H Q
theorem l_counted {H : Hp} {a : Addr} {r : List Nat} (h : SqL K H a (vNs r)) (hl : r.length ≤ 1000) : SpL (sp_counted K) [.ref a] H (vNs (r.length :: r)) := fun _ e _ q _ => ⟨a, r, rfl, ex_l e h, hl, q⟩
theorem ok_counted (T : Txt K mg C) : Ok P w K mg base 1 "counted" ["numbers"] (sp_counted K) := by
  refine T.d_counted.ok sc_counted (fun vs H Q E h => ?_) (fun f cdv A outer s0 H vs Q E hr h => ?_)
  · obtain ⟨a, r, rfl, _⟩ := h
    rfl
  · obtain ⟨a, r, rfl, hS, hl, q⟩ := h
    refine ⟨_, (pss_one (ps_ret (pe_op op_cat (pe_lst (pa_cons (pe_callB call_len_seq (by rfl) T.z_len PySem.boot_len (pa_cons (pv 0) pa_nil)) pa_nil)) (pe_callTy call_list_of (by rfl) T.z_list boot_list (pa_cons (pv 0) pa_nil))))), ?_⟩
    exact s_retL (el_cat (el_one (ev_lenR (ev_var rfl) hS)) (fun H1 e1 => el_list (ev_var rfl) (ex_l e1 hS)) (by rw [vNs_length]; show 1 + r.length ≤ 100000; omega)) q
/-! ### get_ring, get_section, ring_after, winding_number -/
def sp_get_ring (C : Addr) : Sp := fun vs H Q _ => ∃ (a p : Addr) (s : Simulator), vs = [.ref a] ∧ HallAt C H a p s.ring s.time ∧ Fits s.ring ∧ Ask s .getRing H Q
theorem ok_get_ring (T : Txt K mg C) : Ok P w K mg base 2 "get_ring" ["hall"] (sp_get_ring C) := by
  refine T.d_get_ring.ok sc_get_ring (fun vs H Q E h => ?_) (fun f cdv A outer s0 H vs Q E hr h => ?_)
  · obtain ⟨a, p, s, rfl, _⟩ := h
    rfl
  · obtain ⟨a, p, s, rfl, hh, hf, q⟩ := h
    refine ⟨_, (pss_one (ps_ret (pe_ok (ok_counted T) (hr.mono (by decide)) (pa_cons (pe_fld (pv 0) rfl) pa_nil)))), ?_⟩
    have q' := q.is rfl
    rw [row_list] at q'
    exact s_retL (el_call (ea_cons (ev_states (ev_var rfl) hh T.cl T.nS) ea_nil) (l_counted hh.sq hf.le)) q'
def sp_get_section (C : Addr) : Sp := fun vs H Q _ => ∃ (a p : Addr) (s : Simulator) (i : Nat), vs = [.ref a, vN i] ∧ HallAt C H a p s.ring s.time ∧ Ask s (.getSection i) H Q
theorem ok_get_section (T : Txt K mg C) : Ok P w K mg base 1 "get_section" ["hall", "section"] (sp_get_section C) := by
  refine T.d_get_section.ok sc_get_section (fun vs H Q E h => ?_) (fun f cdv A outer s0 H vs Q E hr h => ?_)
  · obtain ⟨a, p, s, i, rfl, _⟩ := h
    rfl
  · obtain ⟨a, p, s, i, rfl, hh, q⟩ := h
    refine ⟨_, (pss_cons (ps_if (pt_cmpR op_ge (pv 1) (pe_callB call_len_seq (by rfl) T.z_len PySem.boot_len (pa_cons (pe_fld (pv 0) rfl) pa_nil)) (nomark _))
      (pss_one (ps_ret (pe_lst (pa_cons (pe_con_ T.c_NO_SECTION) pa_nil)))) pss_nil)
      (pss_one (ps_ret (pe_lst (pa_cons (pe_ix ix_list (pe_fld (pv 0) rfl) (pv 1) (fun _ _ => rfl)) pa_nil))))), ?_⟩
    refine q_when (et_ge (m := i) (n := s.ring.length) (ev_var rfl) (ev_lenR (ev_states (ev_var rfl) hh T.cl T.nS) hh.sq)) (fun c H1 e1 => ?_) fun c H1 e1 => ?_
    · exact s_retL (el_one ev_c) ((q.ex e1).is (if_pos (of_decide_eq_true c)))
    have c1 := of_decide_eq_false c
    have h1 := hh.mono e1
    exact s_retL (el_one (ev_ixN (ev_states (ev_var rfl) h1 T.cl T.nS) (ev_var rfl) h1.sq (get_stateAt (Nat.lt_of_not_le c1)))) ((q.ex e1).is (if_neg c1))
def sp_ring_after (C : Addr) : Sp := fun vs H Q _ => ∃ (a p : Addr) (s : Simulator) (k : Nat), vs = [.ref a, vN k] ∧ HallAt C H a p s.ring s.time ∧ Fits s.ring ∧ Ask s (.ringAfter k) H Q
theorem ok_ring_after (T : Txt K mg C) : Ok P w K mg base 4 "ring_after" ["hall", "steps"] (sp_ring_after C) := by
  refine T.d_ring_after.ok sc_ring_after (fun vs H Q E h => ?_) (fun f cdv A outer s0 H vs Q E hr h => ?_)
  · obtain ⟨a, p, s, k, rfl, _⟩ := h
    rfl
  · obtain ⟨a, p, s, k, rfl, hh, hf, q⟩ := h
    refine ⟨_, (pss_cons (ps_if (pt_cmpR op_gt (pv 1) (pe_con_ T.c_MOST_STEPS) (nomark _))
      (pss_one (ps_ret (pe_lst (pa_cons (pe_con_ T.c_OUT_OF_RANGE) pa_nil)))) pss_nil)
      (pss_one (ps_ret (pe_ok (ok_counted T) (hr.mono (by decide)) (pa_cons (pe_ok (ok_after_steps T) (hr.mono (by decide)) (pa_cons (pe_fld (pv 0) rfl) (pa_cons (pv 1) pa_nil))) pa_nil))))), ?_⟩
    refine q_when (et_gt (m := k) (n := 40) (ev_var rfl) ev_c) (fun c H1 e1 => ?_) fun c H1 e1 => ?_
    · exact s_retL (el_one ev_c) ((q.ex e1).is (if_pos (of_decide_eq_true c)))
    have c1 := of_decide_eq_false c
    have q' := (q.ex e1).is (if_neg c1)
    rw [row_list] at q'
    have h1 := hh.mono e1
    exact s_retL (el_callL (el_call (ea_cons (ev_states (ev_var rfl) h1 T.cl T.nS) (ea_cons (ev_var rfl) ea_nil)) (l_after_steps h1.sq hf.le (by omega))) fun l H2 e2 h2 => l_counted (sq_of h2) (by rw [ringAfter_length]; exact hf.le)) q'
def sp_winding_number (C : Addr) : Sp := fun vs H Q _ => ∃ (a p : Addr) (s : Simulator), vs = [.ref a] ∧ HallAt C H a p s.ring s.time ∧ Fits s.ring ∧ Ask s .windingNumber H Q
theorem ok_winding_number (T : Txt K mg C) : Ok P w K mg base 4 "winding_number" ["hall"] (sp_winding_number C) := by
  refine T.d_winding_number.ok sc_winding_number (fun vs H Q E h => ?_) (fun f cdv A outer s0 H vs Q E hr h => ?_)
  · obtain ⟨a, p, s, rfl, _⟩ := h
    rfl
  · obtain ⟨a, p, s, rfl, hh, hf, q⟩ := h
    refine ⟨_, (pss_one (ps_ret (pe_lst (pa_cons pe_int (pa_cons (pe_ok (ok_winding_of T) (hr.mono (by decide)) (pa_cons (pe_fld (pv 0) rfl) pa_nil)) pa_nil))))), ?_⟩
    exact s_retL (el_two ev_c (ev_call (ea_cons (ev_states (ev_var rfl) hh T.cl T.nS) ea_nil) (v_winding_of hh.sq hf.le))) (q.is rfl)
/-! ### steps_until_quiet, cycle, forward_waves, backward_waves -/
def sp_steps_until_quiet (C : Addr) : Sp := fun vs H Q _ => ∃ (a p : Addr) (s : Simulator), vs = [.ref a] ∧ HallAt C H a p s.ring s.time ∧ Fits s.ring ∧ Ask s .stepsUntilQuiet H Q
theorem ok_steps_until_quiet (T : Txt K mg C) : Ok P w K mg base 5 "steps_until_quiet" ["hall"] (sp_steps_until_quiet C) := by
  refine T.d_steps_until_quiet.ok sc_steps_until_quiet (fun vs H Q E h => ?_) (fun f cdv A outer s0 H vs Q E hr h => ?_)
  · obtain ⟨a, p, s, rfl, _⟩ := h
    rfl
  · obtain ⟨a, p, s, rfl, hh, hf, q⟩ := h
    refine ⟨_, (pss_one (ps_ret (pe_lst (pa_cons (pe_ok (ok_quiet_time T) (hr.mono (by decide)) (pa_cons (pe_fld (pv 0) rfl) pa_nil)) pa_nil)))), ?_⟩
    have q' := q.is rfl
    rw [row_optional] at q'
    exact s_retL (el_one (ev_call (ea_cons (ev_states (ev_var rfl) hh T.cl T.nS) ea_nil) (v_quiet_time hh.sq hf.le))) q'
def sp_cycle (C : Addr) : Sp := fun vs H Q _ => ∃ (a p : Addr) (s : Simulator), vs = [.ref a] ∧ HallAt C H a p s.ring s.time ∧ Fits s.ring ∧ Ask s .cycle H Q
theorem ok_cycle (T : Txt K mg C) : Ok P w K mg base 5 "cycle" ["hall"] (sp_cycle C) := by
  refine T.d_cycle.ok sc_cycle (fun vs H Q E h => ?_) (fun f cdv A outer s0 H vs Q E hr h => ?_)
  · obtain ⟨a, p, s, rfl, _⟩ := h
    rfl
  · obtain ⟨a, p, s, rfl, hh, hf, q⟩ := h
    refine ⟨_, (pss_one (ps_ret (pe_ok (ok_cycle_of T) (hr.mono (by decide)) (pa_cons (pe_fld (pv 0) rfl) pa_nil)))), ?_⟩
    have q' := q.is rfl
    rw [cycle_is hf.1 hf.2] at q'
    exact s_retL (el_call (ea_cons (ev_states (ev_var rfl) hh T.cl T.nS) ea_nil) (l_cycle_of hh.sq hf.le)) q'
theorem forward_length (r : Ring) : (forwardWaves r).length ≤ r.length := by
  have h := List.length_filter_le (fun i => stateAt r i == 1 && stateAt r (i + 1) == 0 && previousState r i == 2) (List.range r.length)
  rw [List.length_range] at h
  exact h
theorem backward_length (r : Ring) : (backwardWaves r).length ≤ r.length := by
  have h := List.length_filter_le (fun i => stateAt r i == 1 && previousState r i == 0 && stateAt r (i + 1) == 2) (List.range r.length)
  rw [List.length_range] at h
  exact h
def sp_forward_waves (C : Addr) : Sp := fun vs H Q _ => ∃ (a p : Addr) (s : Simulator), vs = [.ref a] ∧ HallAt C H a p s.ring s.time ∧ Fits s.ring ∧ Ask s .forwardWaves H Q
theorem ok_forward_waves (T : Txt K mg C) : Ok P w K mg base 4 "forward_waves" ["hall"] (sp_forward_waves C) := by
  refine T.d_forward_waves.ok sc_forward_waves (fun vs H Q E h => ?_) (fun f cdv A outer s0 H vs Q E hr h => ?_)
  · obtain ⟨a, p, s, rfl, _⟩ := h
    rfl
  · obtain ⟨a, p, s, rfl, hh, hf, q⟩ := h
    refine ⟨_, (pss_one (ps_ret (pe_ok (ok_counted T) (hr.mono (by decide)) (pa_cons (pe_ok (ok_forward_in T) (hr.mono (by decide)) (pa_cons (pe_fld (pv 0) rfl) pa_nil)) pa_nil)))), ?_⟩
    have q' := q.is rfl
    rw [row_list] at q'
    exact s_retL (el_callL (el_call (ea_cons (ev_states (ev_var rfl) hh T.cl T.nS) ea_nil) (l_forward_in hh.sq hf.le)) fun l H2 e2 h2 => l_counted (sq_of h2) (Nat.le_trans (forward_length _) hf.le)) q'
def sp_backward_waves (C : Addr) : Sp := fun vs H Q _ => ∃ (a p : Addr) (s : Simulator), vs = [.ref a] ∧ HallAt C H a p s.ring s.time ∧ Fits s.ring ∧ Ask s .backwardWaves H Q
theorem ok_backward_waves (T : Txt K mg C) : Ok P w K mg base 4 "backward_waves" ["hall"] (sp_backward_waves C) := by
  refine T.d_backward_waves.ok sc_backward_waves (fun vs H Q E h => ?_) (fun f cdv A outer s0 H vs Q E hr h => ?_)
  · obtain ⟨a, p, s, rfl, _⟩ := h
    rfl
  · obtain ⟨a, p, s, rfl, hh, hf, q⟩ := h
    refine ⟨_, (pss_one (ps_ret (pe_ok (ok_counted T) (hr.mono (by decide)) (pa_cons (pe_ok (ok_backward_in T) (hr.mono (by decide)) (pa_cons (pe_fld (pv 0) rfl) pa_nil)) pa_nil)))), ?_⟩
    have q' := q.is rfl
    rw [row_list] at q'
    exact s_retL (el_callL (el_call (ea_cons (ev_states (ev_var rfl) hh T.cl T.nS) ea_nil) (l_backward_in hh.sq hf.le)) fun l H2 e2 h2 => l_counted (sq_of h2) (Nat.le_trans (backward_length _) hf.le)) q'
/-! ### standing_count, max_standing, first_standing, quiet_if_stand_up, get_state -/
def sp_standing_count (C : Addr) : Sp := fun vs H Q _ => ∃ (a p : Addr) (s : Simulator), vs = [.ref a] ∧ HallAt C H a p s.ring s.time ∧ Ask s .standingCount H Q
theorem ok_standing_count (T : Txt K mg C) : Ok P w K mg base 3 "standing_count" ["hall"] (sp_standing_count C) := by
  refine T.d_standing_count.ok sc_standing_count (fun vs H Q E h => ?_) (fun f cdv A outer s0 H vs Q E hr h => ?_)
  · obtain ⟨a, p, s, rfl, _⟩ := h
    rfl
  · obtain ⟨a, p, s, rfl, hh, q⟩ := h
    refine ⟨_, (pss_one (ps_ret (pe_lst (pa_cons (pe_ok (ok_count_standing T) (hr.mono (by decide)) (pa_cons (pe_fld (pv 0) rfl) pa_nil)) pa_nil)))), ?_⟩
    exact s_retL (el_one (ev_call (ea_cons (ev_states (ev_var rfl) hh T.cl T.nS) ea_nil) (v_count_standing hh.sq))) (q.is rfl)
def sp_max_standing (C : Addr) : Sp := fun vs H Q _ => ∃ (a p : Addr) (s : Simulator), vs = [.ref a] ∧ HallAt C H a p s.ring s.time ∧ Fits s.ring ∧ Ask s .maxStanding H Q
theorem ok_max_standing (T : Txt K mg C) : Ok P w K mg base 5 "max_standing" ["hall"] (sp_max_standing C) := by
  refine T.d_max_standing.ok sc_max_standing (fun vs H Q E h => ?_) (fun f cdv A outer s0 H vs Q E hr h => ?_)
  · obtain ⟨a, p, s, rfl, _⟩ := h
    rfl
  · obtain ⟨a, p, s, rfl, hh, hf, q⟩ := h
    refine ⟨_, (pss_one (ps_ret (pe_lst (pa_cons (pe_ok (ok_most_standing T) (hr.mono (by decide)) (pa_cons (pe_fld (pv 0) rfl) pa_nil)) pa_nil)))), ?_⟩
    exact s_retL (el_one (ev_call (ea_cons (ev_states (ev_var rfl) hh T.cl T.nS) ea_nil) (v_most_standing hh.sq hf.le))) (q.is rfl)
def sp_first_standing (C : Addr) : Sp := fun vs H Q _ => ∃ (a p : Addr) (s : Simulator) (i : Nat), vs = [.ref a, vN i] ∧ HallAt C H a p s.ring s.time ∧ Fits s.ring ∧ Ask s (.firstStanding i) H Q
theorem ok_first_standing (T : Txt K mg C) : Ok P w K mg base 5 "first_standing" ["hall", "section"] (sp_first_standing C) := by
  refine T.d_first_standing.ok sc_first_standing (fun vs H Q E h => ?_) (fun f cdv A outer s0 H vs Q E hr h => ?_)
  · obtain ⟨a, p, s, i, rfl, _⟩ := h
    rfl
  · obtain ⟨a, p, s, i, rfl, hh, hf, q⟩ := h
    refine ⟨_, (pss_cons (ps_if (pt_cmpR op_ge (pv 1) (pe_callB call_len_seq (by rfl) T.z_len PySem.boot_len (pa_cons (pe_fld (pv 0) rfl) pa_nil)) (nomark _))
      (pss_one (ps_ret (pe_lst (pa_cons (pe_con_ T.c_NO_SECTION) pa_nil)))) pss_nil)
      (pss_one (ps_ret (pe_lst (pa_cons (pe_ok (ok_standing_time T) (hr.mono (by decide)) (pa_cons (pe_fld (pv 0) rfl) (pa_cons (pv 1) pa_nil))) pa_nil))))), ?_⟩
    refine q_when (et_ge (m := i) (n := s.ring.length) (ev_var rfl) (ev_lenR (ev_states (ev_var rfl) hh T.cl T.nS) hh.sq)) (fun c H1 e1 => ?_) fun c H1 e1 => ?_
    · exact s_retL (el_one ev_c) ((q.ex e1).is (if_pos (of_decide_eq_true c)))
    have c1 := of_decide_eq_false c
    have h1 := hh.mono e1
    have q' := (q.ex e1).is (if_neg c1)
    rw [row_optional] at q'
    exact s_retL (el_one (ev_call (ea_cons (ev_states (ev_var rfl) h1 T.cl T.nS) (ea_cons (ev_var rfl) ea_nil)) (v_standing_time h1.sq hf.le (Nat.lt_of_not_le c1)))) q'
def sp_quiet_if_stand_up (C : Addr) : Sp := fun vs H Q _ => ∃ (a p : Addr) (s : Simulator) (i : Nat), vs = [.ref a, vN i] ∧ HallAt C H a p s.ring s.time ∧ Fits s.ring ∧ Ask s (.quietIfStandUp i) H Q
theorem ok_quiet_if_stand_up (T : Txt K mg C) : Ok P w K mg base 5 "quiet_if_stand_up" ["hall", "section"] (sp_quiet_if_stand_up C) := by
  refine T.d_quiet_if_stand_up.ok sc_quiet_if_stand_up (fun vs H Q E h => ?_) (fun f cdv A outer s0 H vs Q E hr h => ?_)
  · obtain ⟨a, p, s, i, rfl, _⟩ := h
    rfl
  · obtain ⟨a, p, s, i, rfl, hh, hf, q⟩ := h
    refine ⟨_, (pss_cons (ps_if (pt_cmpR op_ge (pv 1) (pe_callB call_len_seq (by rfl) T.z_len PySem.boot_len (pa_cons (pe_fld (pv 0) rfl) pa_nil)) (nomark _))
      (pss_one (ps_ret (pe_lst (pa_cons (pe_con_ T.c_NO_SECTION) pa_nil)))) pss_nil)
      (pss_cons (ps_if (pt_cmpR op_ne (pe_ix ix_list (pe_fld (pv 0) rfl) (pv 1) (fun _ _ => rfl)) (pe_con_ T.c_SEATED) (nomark _))
      (pss_one (ps_ret (pe_lst (pa_cons (pe_con_ T.c_NOT_SEATED) pa_nil)))) pss_nil)
      (pss_one (ps_ret (pe_lst (pa_cons (pe_ok (ok_quiet_time T) (hr.mono (by decide)) (pa_cons (pe_ok (ok_with_state T) (hr.mono (by decide)) (pa_cons (pe_fld (pv 0) rfl) (pa_cons (pv 1) (pa_cons (pe_con_ T.c_STANDING) pa_nil)))) pa_nil)) pa_nil)))))), ?_⟩
    refine q_when (et_ge (m := i) (n := s.ring.length) (ev_var rfl) (ev_lenR (ev_states (ev_var rfl) hh T.cl T.nS) hh.sq)) (fun c H1 e1 => ?_) fun c H1 e1 => ?_
    · exact s_retL (el_one ev_c) ((q.ex e1).is (if_pos (of_decide_eq_true c)))
    have c1 := of_decide_eq_false c
    have hi : i < s.ring.length := Nat.lt_of_not_le c1
    have h1 := hh.mono e1
    refine q_when (et_ne (m := stateAt s.ring i) (n := 0) (ev_ixN (ev_states (ev_var rfl) h1 T.cl T.nS) (ev_var rfl) h1.sq (get_stateAt hi)) ev_c) (fun c H2 e2 => ?_) fun c H2 e2 => ?_
    · rw [Bool.not_eq_true', decide_eq_false_iff_not] at c
      exact s_retL (el_one ev_c) ((q.ex (e1.trans e2)).is ((if_neg c1).trans (if_pos c)))
    rw [Bool.not_eq_false', decide_eq_true_eq] at c
    have q' := (q.ex (e1.trans e2)).is ((if_neg c1).trans (if_neg (fun z => z c)))
    rw [row_optional] at q'
    have h2 := h1.mono e2
    exact s_retL (el_one (ev_callL (el_call (ea_cons (ev_states (ev_var rfl) h2 T.cl T.nS) (ea_cons (ev_var rfl) (ea_cons ev_c ea_nil))) (l_with_state (x := 1) h2.sq hi)) fun l H3 e3 h3 => v_quiet_time (sq_of h3) (by rw [List.length_set]; exact hf.le))) q'
def sp_get_state (C : Addr) : Sp := fun vs H Q _ => ∃ (a p : Addr) (s : Simulator), vs = [.ref a] ∧ HallAt C H a p s.ring s.time ∧ Ask s .getState H Q
theorem ok_get_state (T : Txt K mg C) : Ok P w K mg base 3 "get_state" ["hall"] (sp_get_state C) := by
  refine T.d_get_state.ok sc_get_state (fun vs H Q E h => ?_) (fun f cdv A outer s0 H vs Q E hr h => ?_)
  · obtain ⟨a, p, s, rfl, _⟩ := h
    rfl
  · obtain ⟨a, p, s, rfl, hh, q⟩ := h
    refine ⟨_, (pss_one (ps_ret (pe_lst (pa_cons (pe_callB call_len_seq (by rfl) T.z_len PySem.boot_len (pa_cons (pe_fld (pv 0) rfl) pa_nil)) (pa_cons (pe_fld (pv 0) rfl) (pa_cons (pe_ok (ok_count_standing T) (hr.mono (by decide)) (pa_cons (pe_fld (pv 0) rfl) pa_nil)) pa_nil)))))), ?_⟩
    exact s_retL (el_lst (ea_cons (ev_lenR (ev_states (ev_var rfl) hh T.cl T.nS) hh.sq) (ea_cons (ev_time (ev_var rfl) hh T.cl T.nT)
      (ea_cons (ev_call (ea_cons (ev_states (ev_var rfl) hh T.cl T.nS) ea_nil) (v_count_standing hh.sq)) ea_nil))) (by show 3 ≤ 100000; decide)) (q.is rfl)
end
end Sw
/-! The desk: calls are read one behind another and answered. -/
namespace Sw
open PySem PySem.Spec PyProof.Rows L2 Evl
open Kv439 (Ring Simulator Operation Response execute newSimulator)
open Kv439Neutral (resultRow)

section
variable {K : PySem.W.Frag} {σ : L2.St} {H : Hp} {D : Ends} {sp : Sp} {E : XK} {ta : TA} {vs : List V}
theorem s_retCall (h : EvA ta σ H vs) (k : ∀ H1, Ex H H1 → sp vs H1 D.rt E) : tRet (tCall sp [] E ta) D σ H := h H (Ex.refl H) _ fun H1 e1 => by
  show sp (vs ++ []) H1 D.rt E
  rw [List.append_nil]
  exact k H1 e1
end
section
variable {P : Program} {w : World} {K : PySem.W.Frag} {mg : Str → Option Value} {base : Heap} {C : Addr}

/-! ### first_number, end_of_call, numbers_of -/
def firstOf (p v : Nat) : Nat := if v = 2 then p + 2 else p + 1
def endOf (ms : List Nat) (p v : Nat) : Nat := if v = 2 then p + 2 + ms.getD (p + 1) 0 else p + 1 + sizes.getD v 0
def sp_first_number (K : PySem.W.Frag) : Sp := fun vs H Q _ => ∃ (l : Addr) (ms : List Nat) (p v : Nat), vs = [.ref l, vN p] ∧ SqL K H l (vNs ms) ∧ ms[p]? = some v ∧ RetV (vN (firstOf p v)) H Q
theorem v_first_number {H : Hp} {l : Addr} {ms : List Nat} {p v : Nat} (h : SqL K H l (vNs ms)) (hv : ms[p]? = some v) : SpV (sp_first_number K) [.ref l, vN p] H (vN (firstOf p v)) := fun _ e _ q _ => ⟨l, ms, p, v, rfl, ex_l e h, hv, q⟩
theorem ok_first_number (T : Txt K mg C) : Ok P w K mg base 1 "first_number" ["calls", "place"] (sp_first_number K) := by
  refine T.d_first_number.ok sc_first_number (fun vs H Q E h => ?_) (fun f cdv A outer s0 H vs Q E hr h => ?_)
  · obtain ⟨l, ms, p, v, rfl, _⟩ := h
    rfl
  · obtain ⟨l, ms, p, v, rfl, hS, hv, q⟩ := h
    refine ⟨_, (pss_cons (ps_if (pt_cmpR op_eq (pe_ix ix_list (pv 0) (pv 1) (fun _ _ => rfl)) (pe_con_ T.c_SET_ALL) (nomark _))
      (pss_one (ps_ret (pe_op op_add (pv 1) pe_int))) pss_nil)
      (pss_one (ps_ret (pe_op op_add (pv 1) pe_int)))), ?_⟩
    unfold firstOf at q
    refine q_when (et_eq (m := v) (n := 2) (ev_ixN (ev_var rfl) (ev_var rfl) hS hv) ev_c) (fun c H1 e1 => ?_) fun c H1 e1 => ?_
    · rw [if_pos (of_decide_eq_true c)] at q
      exact s_ret (ev_N (ev_add (ev_var rfl) ev_c) rfl) fun H2 e2 => q H2 (e1.trans e2)
    · rw [if_neg (of_decide_eq_false c)] at q
      exact s_ret (ev_N (ev_add (ev_var rfl) ev_c) rfl) fun H2 e2 => q H2 (e1.trans e2)
def sp_end_of_call (K : PySem.W.Frag) : Sp := fun vs H Q _ => ∃ (l : Addr) (ms : List Nat) (p v : Nat), vs = [.ref l, vN p] ∧ SqL K H l (vNs ms) ∧ ms[p]? = some v ∧ v ≤ 22 ∧ (v = 2 → p + 1 < ms.length) ∧ RetV (vN (endOf ms p v)) H Q
theorem v_end_of_call {H : Hp} {l : Addr} {ms : List Nat} {p v : Nat} (h : SqL K H l (vNs ms)) (hv : ms[p]? = some v) (h22 : v ≤ 22) (h2 : v = 2 → p + 1 < ms.length) : SpV (sp_end_of_call K) [.ref l, vN p] H (vN (endOf ms p v)) :=
  fun _ e _ q _ => ⟨l, ms, p, v, rfl, ex_l e h, hv, h22, h2, q⟩
theorem ok_end_of_call (T : Txt K mg C) : Ok P w K mg base 1 "end_of_call" ["calls", "place"] (sp_end_of_call K) := by
  obtain ⟨aSIZES, mSIZES, qS⟩ := T.v_SIZES
  refine T.d_end_of_call.ok sc_end_of_call (fun vs H Q E h => ?_) (fun f cdv A outer s0 H vs Q E hr h => ?_)
  · obtain ⟨l, ms, p, v, rfl, _⟩ := h
    rfl
  · obtain ⟨l, ms, p, v, rfl, hS, hv, h22, h2, q⟩ := h
    refine ⟨_, (pss_cons (ps_if (pt_cmpR op_eq (pe_ix ix_list (pv 0) (pv 1) (fun _ _ => rfl)) (pe_con_ T.c_SET_ALL) (nomark _))
      (pss_one (ps_ret (pe_op op_add (pe_op op_add (pv 1) pe_int) (pe_ix ix_list (pv 0) (pe_op op_add (pv 1) pe_int) (fun _ _ => rfl))))) pss_nil)
      (pss_one (ps_ret (pe_op op_add (pe_op op_add (pv 1) pe_int) (pe_ix ix_tup (pe_glob (v := .ref aSIZES) (by rfl) mSIZES rfl) (pe_ix ix_list (pv 0) (pv 1) (fun _ _ => rfl)) (fun _ _ => rfl)))))), ?_⟩
    unfold endOf at q
    refine q_when (et_eq (m := v) (n := 2) (ev_ixN (ev_var rfl) (ev_var rfl) hS hv) ev_c) (fun c H1 e1 => ?_) fun c H1 e1 => ?_
    · have c1 := of_decide_eq_true c
      rw [if_pos c1] at q
      have hg : ms[p + 1]? = some (ms.getD (p + 1) 0) := by
        rw [List.getD_eq_getElem?_getD, List.getElem?_eq_getElem (h2 c1), Option.getD_some]
      exact s_ret (ev_N (ev_add (ev_add (ev_var rfl) ev_c) (ev_ixN (ev_var rfl) (ev_N (n := p + 1) (ev_add (ev_var rfl) ev_c) rfl) (ex_l e1 hS) hg)) rfl) fun H2 e2 => q H2 (e1.trans e2)
    · rw [if_neg (of_decide_eq_false c)] at q
      have hg : sizes[v]? = some (sizes.getD v 0) := by
        have hl : v < sizes.length := by
          show v < 23
          omega
        rw [List.getD_eq_getElem?_getD, List.getElem?_eq_getElem hl, Option.getD_some]
      exact s_ret (ev_N (ev_add (ev_add (ev_var rfl) ev_c) (ev_ixTN (r := sizes) (a := aSIZES) ev_c (ev_ixN (ev_var rfl) (ev_var rfl) (ex_l e1 hS) hv) (qS H1) hg)) rfl) fun H2 e2 => q H2 (e1.trans e2)
def sp_numbers_of (K : PySem.W.Frag) : Sp := fun vs H Q _ => ∃ (l : Addr) (ms : List Nat) (p v : Nat), vs = [.ref l, vN p] ∧ SqL K H l (vNs ms) ∧ ms[p]? = some v ∧ v ≤ 22 ∧ (v = 2 → p + 1 < ms.length) ∧ endOf ms p v ≤ ms.length ∧ ms.length ≤ 30000 ∧
  RetL (vNs ((ms.drop (firstOf p v)).take (endOf ms p v - firstOf p v))) H Q
theorem first_le_end (ms : List Nat) (p v : Nat) : firstOf p v ≤ endOf ms p v := by
  unfold firstOf endOf
  split <;> omega
theorem ok_numbers_of (T : Txt K mg C) : Ok P w K mg base 2 "numbers_of" ["calls", "place"] (sp_numbers_of K) := by
  refine T.d_numbers_of.ok sc_numbers_of (fun vs H Q E h => ?_) (fun f cdv A outer s0 H vs Q E hr h => ?_)
  · obtain ⟨l, ms, p, v, rfl, _⟩ := h
    rfl
  · obtain ⟨l, ms, p, v, rfl, hS, hv, h22, h2, hle, h3, q⟩ := h
    refine ⟨_, (pss_cons (ps_set (i := 2) sc_numbers_of.nd rfl (Or.inl rfl) (pe_lst pa_nil))
      (pss_cons (ps_for PassesOwn.never rfl (pi_range2 (by rfl) T.z_range (pa_cons (pe_ok (ok_first_number T) (hr.mono (by decide)) (pa_cons (pv 0) (pa_cons (pv 1) pa_nil))) (pa_cons (pe_ok (ok_end_of_call T) (hr.mono (by decide)) (pa_cons (pv 0) (pa_cons (pv 1) pa_nil))) pa_nil))) (pg_name (i := 3) sc_numbers_of.nd rfl (Or.inl rfl))
      (pss_one (ps_expr (pe_bm PySem.F.plainAttrs_list PySem.F.slot_list_append PySem.F.type_list_append mt_append (pv 2) (pa_cons (pe_ix ix_list (pv 0) (pv 3) (fun _ _ => rfl)) pa_nil)))))
      (pss_one (ps_ret (pv 2))))), ?_⟩
    have hfe := first_le_end ms p v
    refine q_asgL el_nil fun pf H1 hpf e1 h1 => ?_
    refine q_forR2 (lo := (firstOf p v : Nat)) (n := (endOf ms p v : Nat)) (ea_cons (ev_call (ea_cons (ev_var rfl) (ea_cons (ev_var rfl) ea_nil)) (v_first_number (ex_l e1 hS) hv)) (ea_cons (ev_call (ea_cons (ev_var rfl) (ea_cons (ev_var rfl) ea_nil)) (v_end_of_call (ex_l e1 hS) hv h22 h2)) ea_nil))
      ⟨by omega, by omega, by omega, by omega⟩
      (fun i σ' H' => ∃ v3 : Option V, σ' = [some (.ref l), some (vN p), some (.ref pf), v3] ∧ Ex H H' ∧ H' pf = some (.lst (vNs ((ms.drop (firstOf p v)).take i))))
      (fun H2 e2 => ⟨none, rfl, e1.trans e2, e2 _ _ h1⟩) (fun i σ' H2 hi p2 => ?_) (fun σ' H2 p2 => ?_)
    · obtain ⟨v3, rfl, e2, hf⟩ := p2
      have hi' : firstOf p v + i < ms.length := by omega
      have hg : ms[firstOf p v + i]? = some ms[firstOf p v + i] := List.getElem?_eq_getElem hi'
      have hg2 : (ms.drop (firstOf p v))[i]? = some ms[firstOf p v + i] := by rw [List.getElem?_drop, hg]
      refine s_app (xs := vNs ((ms.drop (firstOf p v)).take i)) (v := vN ms[firstOf p v + i]) hf (ev_var rfl) (ev_ixN (n := firstOf p v + i) (ev_var rfl) (ev_N (ev_var rfl) rfl) (ex_l e2 hS) hg)
        (by rw [vNs_length, List.length_take]; omega) fun H3 e3 => ?_
      refine ⟨_, rfl, Ex.mut (e2.trans e3) hpf, ?_⟩
      rw [upd_same, take_more hg2, vNs_app]
      rfl
    · obtain ⟨v3, rfl, e2, hf⟩ := p2
      have en : (((endOf ms p v : Nat) : Int) - ((firstOf p v : Nat) : Int)).toNat = endOf ms p v - firstOf p v := by omega
      rw [en] at hf
      exact s_ret (ev_var rfl) fun H4 e4 => q pf H4 hpf (e2.trans e4) (e4 _ _ hf)
/-! ### answer_of_change -/
def sp_answer_of_change (K : PySem.W.Frag) (C : Addr) : Sp := fun vs H Q _ => ∃ (a p l : Addr) (s : Simulator) (op : Nat) (ns : List Nat), vs = [.ref a, vN op, .ref l] ∧ HallAt C H a p s.ring s.time ∧ Fits s.ring ∧ SqL K H l (vNs ns) ∧ 1 ≤ op ∧ op ≤ 9 ∧ (op ≠ 2 → ns.length = sizes.getD op 0) ∧ Done C a p s (opOf op ns) H Q
theorem ok_answer_of_change (T : Txt K mg C) : Ok P w K mg base 6 "answer_of_change" ["hall", "operation", "numbers"] (sp_answer_of_change K C) := by
  refine T.d_answer_of_change.ok sc_answer_of_change (fun vs H Q E h => ?_) (fun f cdv A outer s0 H vs Q E hr h => ?_)
  · obtain ⟨a, p, l, s, op, ns, rfl, _⟩ := h
    rfl
  · obtain ⟨a, p, l, s, op, ns, rfl, hh, hf, hS, hlo, hhi, hl, q⟩ := h
    refine ⟨_, (pss_cons (ps_if (pt_cmpR op_eq (pv 1) (pe_con_ T.c_SET_SECTION) (nomark _))
      (pss_one (ps_ret (pe_ok (ok_set_section T) (hr.mono (by decide)) (pa_cons (pv 0) (pa_cons (pe_ix ix_list (pv 2) pe_int (fun _ _ => rfl)) (pa_cons (pe_ix ix_list (pv 2) pe_int (fun _ _ => rfl)) pa_nil)))))) pss_nil)
      (pss_cons (ps_if (pt_cmpR op_eq (pv 1) (pe_con_ T.c_SET_ALL) (nomark _))
      (pss_one (ps_ret (pe_ok (ok_set_all T) (hr.mono (by decide)) (pa_cons (pv 0) (pa_cons (pv 2) pa_nil))))) pss_nil)
      (pss_cons (ps_if (pt_cmpR op_eq (pv 1) (pe_con_ T.c_STAND_UP) (nomark _))
      (pss_one (ps_ret (pe_ok (ok_stand_up T) (hr.mono (by decide)) (pa_cons (pv 0) (pa_cons (pe_ix ix_list (pv 2) pe_int (fun _ _ => rfl)) pa_nil))))) pss_nil)
      (pss_cons (ps_if (pt_cmpR op_eq (pv 1) (pe_con_ T.c_START_WAVE) (nomark _))
      (pss_one (ps_ret (pe_ok (ok_start_wave T) (hr.mono (by decide)) (pa_cons (pv 0) (pa_cons (pe_ix ix_list (pv 2) pe_int (fun _ _ => rfl)) (pa_cons (pe_ix ix_list (pv 2) pe_int (fun _ _ => rfl)) pa_nil)))))) pss_nil)
      (pss_cons (ps_if (pt_cmpR op_eq (pv 1) (pe_con_ T.c_STEP) (nomark _))
      (pss_one (ps_ret (pe_ok (ok_step T) (hr.mono (by decide)) (pa_cons (pv 0) pa_nil)))) pss_nil)
      (pss_cons (ps_if (pt_cmpR op_eq (pv 1) (pe_con_ T.c_ADVANCE) (nomark _))
      (pss_one (ps_ret (pe_ok (ok_advance T) (hr.mono (by decide)) (pa_cons (pv 0) (pa_cons (pe_ix ix_list (pv 2) pe_int (fun _ _ => rfl)) pa_nil))))) pss_nil)
      (pss_cons (ps_if (pt_cmpR op_eq (pv 1) (pe_con_ T.c_ROTATE) (nomark _))
      (pss_one (ps_ret (pe_ok (ok_rotate T) (hr.mono (by decide)) (pa_cons (pv 0) (pa_cons (pe_ix ix_list (pv 2) pe_int (fun _ _ => rfl)) pa_nil))))) pss_nil)
      (pss_cons (ps_if (pt_cmpR op_eq (pv 1) (pe_con_ T.c_MIRROR) (nomark _))
      (pss_one (ps_ret (pe_ok (ok_mirror T) (hr.mono (by decide)) (pa_cons (pv 0) pa_nil)))) pss_nil)
      (pss_one (ps_ret (pe_ok (ok_sit_down T) (hr.mono (by decide)) (pa_cons (pv 0) pa_nil)))))))))))), ?_⟩
    refine q_when (et_eq (m := op) (n := 1) (ev_var rfl) ev_c) (fun c H1 d1 => ?_) fun c1 H1 d1 => ?_
    · have e1 := (Ex.refl H).trans d1
      obtain rfl := of_decide_eq_true c
      obtain ⟨x, y, rfl⟩ := len2 (hl (by decide))
      exact s_retCall (ea_cons (ev_var rfl) (ea_cons (ev_ixN (n := 0) (s := x) (ev_var rfl) ev_c (ex_l (e1) hS) rfl) (ea_cons (ev_ixN (n := 1) (s := y) (ev_var rfl) ev_c (ex_l (e1) hS) rfl) ea_nil))) fun Hz ez => ⟨a, p, s, x, y, rfl, hh.mono ((e1).trans ez), q.ex ((e1).trans ez)⟩
    have e1 := (Ex.refl H).trans d1
    replace c1 := of_decide_eq_false c1
    refine q_when (et_eq (m := op) (n := 2) (ev_var rfl) ev_c) (fun c H2 d2 => ?_) fun c2 H2 d2 => ?_
    · have e2 := (e1).trans d2
      obtain rfl := of_decide_eq_true c
      exact s_retCall (ea_cons (ev_var rfl) (ea_cons (ev_var rfl) ea_nil)) fun Hz ez => ⟨a, p, l, s, ns, rfl, hh.mono ((e2).trans ez), ex_l ((e2).trans ez) hS, q.ex ((e2).trans ez)⟩
    have e2 := (e1).trans d2
    replace c2 := of_decide_eq_false c2
    refine q_when (et_eq (m := op) (n := 3) (ev_var rfl) ev_c) (fun c H3 d3 => ?_) fun c3 H3 d3 => ?_
    · have e3 := (e2).trans d3
      obtain rfl := of_decide_eq_true c
      obtain ⟨x, rfl⟩ := len1 (hl (by decide))
      exact s_retCall (ea_cons (ev_var rfl) (ea_cons (ev_ixN (n := 0) (s := x) (ev_var rfl) ev_c (ex_l (e3) hS) rfl) ea_nil)) fun Hz ez => ⟨a, p, s, x, rfl, hh.mono ((e3).trans ez), q.ex ((e3).trans ez)⟩
    have e3 := (e2).trans d3
    replace c3 := of_decide_eq_false c3
    refine q_when (et_eq (m := op) (n := 4) (ev_var rfl) ev_c) (fun c H4 d4 => ?_) fun c4 H4 d4 => ?_
    · have e4 := (e3).trans d4
      obtain rfl := of_decide_eq_true c
      obtain ⟨x, y, rfl⟩ := len2 (hl (by decide))
      exact s_retCall (ea_cons (ev_var rfl) (ea_cons (ev_ixN (n := 0) (s := x) (ev_var rfl) ev_c (ex_l (e4) hS) rfl) (ea_cons (ev_ixN (n := 1) (s := y) (ev_var rfl) ev_c (ex_l (e4) hS) rfl) ea_nil))) fun Hz ez => ⟨a, p, s, x, y, rfl, hh.mono ((e4).trans ez), q.ex ((e4).trans ez)⟩
    have e4 := (e3).trans d4
    replace c4 := of_decide_eq_false c4
    refine q_when (et_eq (m := op) (n := 5) (ev_var rfl) ev_c) (fun c H5 d5 => ?_) fun c5 H5 d5 => ?_
    · have e5 := (e4).trans d5
      obtain rfl := of_decide_eq_true c
      exact s_retCall (ea_cons (ev_var rfl) ea_nil) fun Hz ez => ⟨a, p, s, rfl, hh.mono ((e5).trans ez), hf, q.ex ((e5).trans ez)⟩
    have e5 := (e4).trans d5
    replace c5 := of_decide_eq_false c5
    refine q_when (et_eq (m := op) (n := 6) (ev_var rfl) ev_c) (fun c H6 d6 => ?_) fun c6 H6 d6 => ?_
    · have e6 := (e5).trans d6
      obtain rfl := of_decide_eq_true c
      obtain ⟨x, rfl⟩ := len1 (hl (by decide))
      exact s_retCall (ea_cons (ev_var rfl) (ea_cons (ev_ixN (n := 0) (s := x) (ev_var rfl) ev_c (ex_l (e6) hS) rfl) ea_nil)) fun Hz ez => ⟨a, p, s, x, rfl, hh.mono ((e6).trans ez), hf, q.ex ((e6).trans ez)⟩
    have e6 := (e5).trans d6
    replace c6 := of_decide_eq_false c6
    refine q_when (et_eq (m := op) (n := 7) (ev_var rfl) ev_c) (fun c H7 d7 => ?_) fun c7 H7 d7 => ?_
    · have e7 := (e6).trans d7
      obtain rfl := of_decide_eq_true c
      obtain ⟨x, rfl⟩ := len1 (hl (by decide))
      exact s_retCall (ea_cons (ev_var rfl) (ea_cons (ev_ixN (n := 0) (s := x) (ev_var rfl) ev_c (ex_l (e7) hS) rfl) ea_nil)) fun Hz ez => ⟨a, p, s, x, rfl, hh.mono ((e7).trans ez), hf, q.ex ((e7).trans ez)⟩
    have e7 := (e6).trans d7
    replace c7 := of_decide_eq_false c7
    refine q_when (et_eq (m := op) (n := 8) (ev_var rfl) ev_c) (fun c H8 d8 => ?_) fun c8 H8 d8 => ?_
    · have e8 := (e7).trans d8
      obtain rfl := of_decide_eq_true c
      exact s_retCall (ea_cons (ev_var rfl) ea_nil) fun Hz ez => ⟨a, p, s, rfl, hh.mono ((e8).trans ez), hf, q.ex ((e8).trans ez)⟩
    have e8 := (e7).trans d8
    replace c8 := of_decide_eq_false c8
    obtain rfl : op = 9 := by omega
    exact s_retCall (ea_cons (ev_var rfl) ea_nil) fun Hz ez => ⟨a, p, s, rfl, hh.mono ((e8).trans ez), hf, q.ex ((e8).trans ez)⟩
/-! ### answer_of_query -/
def sp_answer_of_query (K : PySem.W.Frag) (C : Addr) : Sp := fun vs H Q _ => ∃ (a p l : Addr) (s : Simulator) (op : Nat) (ns : List Nat), vs = [.ref a, vN op, .ref l] ∧ HallAt C H a p s.ring s.time ∧ Fits s.ring ∧ SqL K H l (vNs ns) ∧ 10 ≤ op ∧ op ≤ 22 ∧ (op ≠ 2 → ns.length = sizes.getD op 0) ∧ Ask s (opOf op ns) H Q
theorem ok_answer_of_query (T : Txt K mg C) : Ok P w K mg base 6 "answer_of_query" ["hall", "operation", "numbers"] (sp_answer_of_query K C) := by
  refine T.d_answer_of_query.ok sc_answer_of_query (fun vs H Q E h => ?_) (fun f cdv A outer s0 H vs Q E hr h => ?_)
  · obtain ⟨a, p, l, s, op, ns, rfl, _⟩ := h
    rfl
  · obtain ⟨a, p, l, s, op, ns, rfl, hh, hf, hS, hlo, hhi, hl, q⟩ := h
    refine ⟨_, (pss_cons (ps_if (pt_cmpR op_eq (pv 1) (pe_con_ T.c_GET_RING) (nomark _))
      (pss_one (ps_ret (pe_ok (ok_get_ring T) (hr.mono (by decide)) (pa_cons (pv 0) pa_nil)))) pss_nil)
      (pss_cons (ps_if (pt_cmpR op_eq (pv 1) (pe_con_ T.c_GET_SECTION) (nomark _))
      (pss_one (ps_ret (pe_ok (ok_get_section T) (hr.mono (by decide)) (pa_cons (pv 0) (pa_cons (pe_ix ix_list (pv 2) pe_int (fun _ _ => rfl)) pa_nil))))) pss_nil)
      (pss_cons (ps_if (pt_cmpR op_eq (pv 1) (pe_con_ T.c_RING_AFTER) (nomark _))
      (pss_one (ps_ret (pe_ok (ok_ring_after T) (hr.mono (by decide)) (pa_cons (pv 0) (pa_cons (pe_ix ix_list (pv 2) pe_int (fun _ _ => rfl)) pa_nil))))) pss_nil)
      (pss_cons (ps_if (pt_cmpR op_eq (pv 1) (pe_con_ T.c_WINDING_NUMBER) (nomark _))
      (pss_one (ps_ret (pe_ok (ok_winding_number T) (hr.mono (by decide)) (pa_cons (pv 0) pa_nil)))) pss_nil)
      (pss_cons (ps_if (pt_cmpR op_eq (pv 1) (pe_con_ T.c_STEPS_UNTIL_QUIET) (nomark _))
      (pss_one (ps_ret (pe_ok (ok_steps_until_quiet T) (hr.mono (by decide)) (pa_cons (pv 0) pa_nil)))) pss_nil)
      (pss_cons (ps_if (pt_cmpR op_eq (pv 1) (pe_con_ T.c_CYCLE) (nomark _))
      (pss_one (ps_ret (pe_ok (ok_cycle T) (hr.mono (by decide)) (pa_cons (pv 0) pa_nil)))) pss_nil)
      (pss_cons (ps_if (pt_cmpR op_eq (pv 1) (pe_con_ T.c_FORWARD_WAVES) (nomark _))
      (pss_one (ps_ret (pe_ok (ok_forward_waves T) (hr.mono (by decide)) (pa_cons (pv 0) pa_nil)))) pss_nil)
      (pss_cons (ps_if (pt_cmpR op_eq (pv 1) (pe_con_ T.c_BACKWARD_WAVES) (nomark _))
      (pss_one (ps_ret (pe_ok (ok_backward_waves T) (hr.mono (by decide)) (pa_cons (pv 0) pa_nil)))) pss_nil)
      (pss_cons (ps_if (pt_cmpR op_eq (pv 1) (pe_con_ T.c_STANDING_COUNT) (nomark _))
      (pss_one (ps_ret (pe_ok (ok_standing_count T) (hr.mono (by decide)) (pa_cons (pv 0) pa_nil)))) pss_nil)
      (pss_cons (ps_if (pt_cmpR op_eq (pv 1) (pe_con_ T.c_MAX_STANDING) (nomark _))
      (pss_one (ps_ret (pe_ok (ok_max_standing T) (hr.mono (by decide)) (pa_cons (pv 0) pa_nil)))) pss_nil)
      (pss_cons (ps_if (pt_cmpR op_eq (pv 1) (pe_con_ T.c_FIRST_STANDING) (nomark _))
      (pss_one (ps_ret (pe_ok (ok_first_standing T) (hr.mono (by decide)) (pa_cons (pv 0) (pa_cons (pe_ix ix_list (pv 2) pe_int (fun _ _ => rfl)) pa_nil))))) pss_nil)
      (pss_cons (ps_if (pt_cmpR op_eq (pv 1) (pe_con_ T.c_QUIET_IF_STAND_UP) (nomark _))
      (pss_one (ps_ret (pe_ok (ok_quiet_if_stand_up T) (hr.mono (by decide)) (pa_cons (pv 0) (pa_cons (pe_ix ix_list (pv 2) pe_int (fun _ _ => rfl)) pa_nil))))) pss_nil)
      (pss_one (ps_ret (pe_ok (ok_get_state T) (hr.mono (by decide)) (pa_cons (pv 0) pa_nil)))))))))))))))), ?_⟩
    refine q_when (et_eq (m := op) (n := 10) (ev_var rfl) ev_c) (fun c H10 d10 => ?_) fun c10 H10 d10 => ?_
    · have e10 := (Ex.refl H).trans d10
      obtain rfl := of_decide_eq_true c
      exact s_retCall (ea_cons (ev_var rfl) ea_nil) fun Hz ez => ⟨a, p, s, rfl, hh.mono ((e10).trans ez), hf, q.ex ((e10).trans ez)⟩
    have e10 := (Ex.refl H).trans d10
    replace c10 := of_decide_eq_false c10
    refine q_when (et_eq (m := op) (n := 11) (ev_var rfl) ev_c) (fun c H11 d11 => ?_) fun c11 H11 d11 => ?_
    · have e11 := (e10).trans d11
      obtain rfl := of_decide_eq_true c
      obtain ⟨x, rfl⟩ := len1 (hl (by decide))
      exact s_retCall (ea_cons (ev_var rfl) (ea_cons (ev_ixN (n := 0) (s := x) (ev_var rfl) ev_c (ex_l (e11) hS) rfl) ea_nil)) fun Hz ez => ⟨a, p, s, x, rfl, hh.mono ((e11).trans ez), q.ex ((e11).trans ez)⟩
    have e11 := (e10).trans d11
    replace c11 := of_decide_eq_false c11
    refine q_when (et_eq (m := op) (n := 12) (ev_var rfl) ev_c) (fun c H12 d12 => ?_) fun c12 H12 d12 => ?_
    · have e12 := (e11).trans d12
      obtain rfl := of_decide_eq_true c
      obtain ⟨x, rfl⟩ := len1 (hl (by decide))
      exact s_retCall (ea_cons (ev_var rfl) (ea_cons (ev_ixN (n := 0) (s := x) (ev_var rfl) ev_c (ex_l (e12) hS) rfl) ea_nil)) fun Hz ez => ⟨a, p, s, x, rfl, hh.mono ((e12).trans ez), hf, q.ex ((e12).trans ez)⟩
    have e12 := (e11).trans d12
    replace c12 := of_decide_eq_false c12
    refine q_when (et_eq (m := op) (n := 13) (ev_var rfl) ev_c) (fun c H13 d13 => ?_) fun c13 H13 d13 => ?_
    · have e13 := (e12).trans d13
      obtain rfl := of_decide_eq_true c
      exact s_retCall (ea_cons (ev_var rfl) ea_nil) fun Hz ez => ⟨a, p, s, rfl, hh.mono ((e13).trans ez), hf, q.ex ((e13).trans ez)⟩
    have e13 := (e12).trans d13
    replace c13 := of_decide_eq_false c13
    refine q_when (et_eq (m := op) (n := 14) (ev_var rfl) ev_c) (fun c H14 d14 => ?_) fun c14 H14 d14 => ?_
    · have e14 := (e13).trans d14
      obtain rfl := of_decide_eq_true c
      exact s_retCall (ea_cons (ev_var rfl) ea_nil) fun Hz ez => ⟨a, p, s, rfl, hh.mono ((e14).trans ez), hf, q.ex ((e14).trans ez)⟩
    have e14 := (e13).trans d14
    replace c14 := of_decide_eq_false c14
    refine q_when (et_eq (m := op) (n := 15) (ev_var rfl) ev_c) (fun c H15 d15 => ?_) fun c15 H15 d15 => ?_
    · have e15 := (e14).trans d15
      obtain rfl := of_decide_eq_true c
      exact s_retCall (ea_cons (ev_var rfl) ea_nil) fun Hz ez => ⟨a, p, s, rfl, hh.mono ((e15).trans ez), hf, q.ex ((e15).trans ez)⟩
    have e15 := (e14).trans d15
    replace c15 := of_decide_eq_false c15
    refine q_when (et_eq (m := op) (n := 16) (ev_var rfl) ev_c) (fun c H16 d16 => ?_) fun c16 H16 d16 => ?_
    · have e16 := (e15).trans d16
      obtain rfl := of_decide_eq_true c
      exact s_retCall (ea_cons (ev_var rfl) ea_nil) fun Hz ez => ⟨a, p, s, rfl, hh.mono ((e16).trans ez), hf, q.ex ((e16).trans ez)⟩
    have e16 := (e15).trans d16
    replace c16 := of_decide_eq_false c16
    refine q_when (et_eq (m := op) (n := 17) (ev_var rfl) ev_c) (fun c H17 d17 => ?_) fun c17 H17 d17 => ?_
    · have e17 := (e16).trans d17
      obtain rfl := of_decide_eq_true c
      exact s_retCall (ea_cons (ev_var rfl) ea_nil) fun Hz ez => ⟨a, p, s, rfl, hh.mono ((e17).trans ez), hf, q.ex ((e17).trans ez)⟩
    have e17 := (e16).trans d17
    replace c17 := of_decide_eq_false c17
    refine q_when (et_eq (m := op) (n := 18) (ev_var rfl) ev_c) (fun c H18 d18 => ?_) fun c18 H18 d18 => ?_
    · have e18 := (e17).trans d18
      obtain rfl := of_decide_eq_true c
      exact s_retCall (ea_cons (ev_var rfl) ea_nil) fun Hz ez => ⟨a, p, s, rfl, hh.mono ((e18).trans ez), q.ex ((e18).trans ez)⟩
    have e18 := (e17).trans d18
    replace c18 := of_decide_eq_false c18
    refine q_when (et_eq (m := op) (n := 19) (ev_var rfl) ev_c) (fun c H19 d19 => ?_) fun c19 H19 d19 => ?_
    · have e19 := (e18).trans d19
      obtain rfl := of_decide_eq_true c
      exact s_retCall (ea_cons (ev_var rfl) ea_nil) fun Hz ez => ⟨a, p, s, rfl, hh.mono ((e19).trans ez), hf, q.ex ((e19).trans ez)⟩
    have e19 := (e18).trans d19
    replace c19 := of_decide_eq_false c19
    refine q_when (et_eq (m := op) (n := 20) (ev_var rfl) ev_c) (fun c H20 d20 => ?_) fun c20 H20 d20 => ?_
    · have e20 := (e19).trans d20
      obtain rfl := of_decide_eq_true c
      obtain ⟨x, rfl⟩ := len1 (hl (by decide))
      exact s_retCall (ea_cons (ev_var rfl) (ea_cons (ev_ixN (n := 0) (s := x) (ev_var rfl) ev_c (ex_l (e20) hS) rfl) ea_nil)) fun Hz ez => ⟨a, p, s, x, rfl, hh.mono ((e20).trans ez), hf, q.ex ((e20).trans ez)⟩
    have e20 := (e19).trans d20
    replace c20 := of_decide_eq_false c20
    refine q_when (et_eq (m := op) (n := 21) (ev_var rfl) ev_c) (fun c H21 d21 => ?_) fun c21 H21 d21 => ?_
    · have e21 := (e20).trans d21
      obtain rfl := of_decide_eq_true c
      obtain ⟨x, rfl⟩ := len1 (hl (by decide))
      exact s_retCall (ea_cons (ev_var rfl) (ea_cons (ev_ixN (n := 0) (s := x) (ev_var rfl) ev_c (ex_l (e21) hS) rfl) ea_nil)) fun Hz ez => ⟨a, p, s, x, rfl, hh.mono ((e21).trans ez), hf, q.ex ((e21).trans ez)⟩
    have e21 := (e20).trans d21
    replace c21 := of_decide_eq_false c21
    obtain rfl : op = 22 := by omega
    exact s_retCall (ea_cons (ev_var rfl) ea_nil) fun Hz ez => ⟨a, p, s, rfl, hh.mono ((e21).trans ez), q.ex ((e21).trans ez)⟩
/-! ### answer_of -/
theorem exec_create (st : Kv439.State) (n : Nat) : execute st (.create n) = if n < 3 ∨ 12 < n then (st, .error (-22)) else (some (newSimulator n), .number 0) := by
  cases st with
  | none => exact none_create n
  | some s => exact some_create s n
def Out (C a p : Addr) (st : Kv439.State) (o : Operation) (H : Hp) (Q : VK) : Prop := RetC C a p (ringOf (execute st o).1) (timeOf (execute st o).1) (resultRow (execute st o).2) H Q
theorem Out.is {C a p : Addr} {st st2 : Kv439.State} {o : Operation} {z : Response} {H : Hp} {Q : VK} (h : Out C a p st o H Q) (e : execute st o = (st2, z)) : RetC C a p (ringOf st2) (timeOf st2) (resultRow z) H Q := by
  unfold Out at h
  rw [e] at h
  exact h
def sp_answer_of (K : PySem.W.Frag) (C : Addr) : Sp := fun vs H Q _ => ∃ (a p l : Addr) (st : Kv439.State) (op : Nat) (ns : List Nat), vs = [.ref a, vN op, .ref l] ∧ HallAt C H a p (ringOf st) (timeOf st) ∧ Good st ∧ SqL K H l (vNs ns) ∧ op ≤ 22 ∧ (op ≠ 2 → ns.length = sizes.getD op 0) ∧ Out C a p st (opOf op ns) H Q
theorem ok_answer_of (T : Txt K mg C) : Ok P w K mg base 7 "answer_of" ["hall", "operation", "numbers"] (sp_answer_of K C) := by
  refine T.d_answer_of.ok sc_answer_of (fun vs H Q E h => ?_) (fun f cdv A outer s0 H vs Q E hr h => ?_)
  · obtain ⟨a, p, l, st, op, ns, rfl, _⟩ := h
    rfl
  · obtain ⟨a, p, l, st, op, ns, rfl, hh, hg, hS, hop, hl, q⟩ := h
    refine ⟨_, (pss_cons (ps_if (pt_cmpR op_eq (pv 1) (pe_con_ T.c_CREATE) (nomark _))
      (pss_one (ps_ret (pe_ok (ok_create T) (hr.mono (by decide)) (pa_cons (pv 0) (pa_cons (pe_ix ix_list (pv 2) pe_int (fun _ _ => rfl)) pa_nil))))) pss_nil)
      (pss_cons (ps_if (pt_cmpR (op_eqD hr.units) (pe_fld (pv 0) rfl) (pe_lst pa_nil) (nomark _))
      (pss_one (ps_ret (pe_lst (pa_cons (pe_con_ T.c_NO_SIMULATOR) pa_nil)))) pss_nil)
      (pss_cons (ps_if (pt_cmpR op_le (pv 1) (pe_con_ T.c_SIT_DOWN) (nomark _))
      (pss_one (ps_ret (pe_ok (ok_answer_of_change T) (hr.mono (by decide)) (pa_cons (pv 0) (pa_cons (pv 1) (pa_cons (pv 2) pa_nil)))))) pss_nil)
      (pss_one (ps_ret (pe_ok (ok_answer_of_query T) (hr.mono (by decide)) (pa_cons (pv 0) (pa_cons (pv 1) (pa_cons (pv 2) pa_nil))))))))), ?_⟩
    refine q_when (et_eq (m := op) (n := 0) (ev_var rfl) ev_c) (fun c H1 e1 => ?_) fun c H1 e1 => ?_
    · obtain rfl := of_decide_eq_true c
      obtain ⟨x, rfl⟩ := len1 (hl (by decide))
      refine s_retCall (ea_cons (ev_var rfl) (ea_cons (ev_ixN (n := 0) (s := x) (ev_var rfl) ev_c (ex_l e1 hS) rfl) ea_nil)) fun H2 e2 => ⟨a, p, ringOf st, timeOf st, x, rfl, hh.mono (e1.trans e2), ?_⟩
      have ec := exec_create st x
      by_cases c3 : x < 3 ∨ 12 < x
      · rw [if_pos c3] at ec ⊢
        exact RetC.ex (q.is ec) (e1.trans e2)
      · rw [if_neg c3] at ec ⊢
        exact RetC.ex (q.is ec) (e1.trans e2)
    have c0 := of_decide_eq_false c
    have h1 := hh.mono e1
    refine q_when (et_eqNil (ev_states (ev_var rfl) h1 T.cl T.nS) h1.sq) (fun c H2 e2 => ?_) fun c H2 e2 => ?_
    · have c1 := of_decide_eq_true c
      cases st with
      | some s =>
        have := hg.1
        have c2 : s.ring = [] := c1
        rw [c2] at this
        exact absurd this (by decide)
      | none => exact s_retL (el_one ev_c) (((RetC.ex (q.is (none_execute ns hop c0)) (e1.trans e2))).retL (h1.mono e2))
    have c1 := of_decide_eq_false c
    cases st with
    | none => exact absurd rfl c1
    | some s =>
      have h2 := h1.mono e2
      refine q_when (et_le (m := op) (n := 9) (ev_var rfl) ev_c) (fun c H3 e3 => ?_) fun c H3 e3 => ?_
      · refine s_retCall (ea_cons (ev_var rfl) (ea_cons (ev_var rfl) (ea_cons (ev_var rfl) ea_nil))) fun H4 e4 => ?_
        have e14 := ((e1.trans e2).trans e3).trans e4
        exact ⟨a, p, l, s, op, ns, rfl, hh.mono e14, hg, ex_l e14 hS, by omega, of_decide_eq_true c, hl, RetC.ex (q.is rfl) e14⟩
      · have c9 := of_decide_eq_false c
        refine s_retCall (ea_cons (ev_var rfl) (ea_cons (ev_var rfl) (ea_cons (ev_var rfl) ea_nil))) fun H4 e4 => ?_
        have e14 := ((e1.trans e2).trans e3).trans e4
        refine ⟨a, p, l, s, op, ns, rfl, hh.mono e14, hg, ex_l e14 hS, by omega, hop, hl, ?_⟩
        have q' := q.is (st2 := some (s.run (opOf op ns)).1) (z := (s.run (opOf op ns)).2) rfl
        rw [query_same s ns hop (by omega)] at q'
        exact (RetC.ex q' e14).retL (hh.mono e14)
/-! ### the session -/
theorem pz_at {ms : List Nat} {place op : Nat} {ns : List Nat} {cs : List (Nat × List Nat)} (h : Pz (ms.drop place) ((op, ns) :: cs)) :
    ms[place]? = some op ∧ op ≤ 22 ∧ (op = 2 → place + 1 < ms.length) ∧ endOf ms place op ≤ ms.length ∧ (ms.drop (firstOf place op)).take (endOf ms place op - firstOf place op) = ns ∧ Pz (ms.drop (endOf ms place op)) cs ∧ (op ≠ 2 → ns.length = sizes.getD op 0) := by
  obtain ⟨rest, h22, hc, hp⟩ := h
  have hlen := congrArg List.length (rfl : ms.drop place = ms.drop place)
  rw [List.length_drop] at hlen
  rcases hc with ⟨h2, hs, e⟩ | ⟨rfl, e⟩
  · have g0 : ms[place]? = some op := by
      have z := congrArg (fun l => l[0]?) e
      simpa using z
    have ed : ms.drop (place + 1) = ns ++ rest := by
      rw [← List.drop_drop, e]
      rfl
    have hl2 := congrArg List.length e
    rw [List.length_drop, List.length_cons, List.length_append] at hl2
    have ee : endOf ms place op = place + 1 + ns.length := by
      unfold endOf
      rw [if_neg h2, hs]
    have ef : firstOf place op = place + 1 := by
      unfold firstOf
      rw [if_neg h2]
    refine ⟨g0, h22, fun z => absurd z h2, by omega, ?_, ?_, fun _ => hs⟩
    · rw [ef, ee, ed, Nat.add_sub_cancel_left, List.take_left]
    · rw [ee, ← List.drop_drop, ed, List.drop_left]
      exact hp
  · have g0 : ms[place]? = some 2 := by
      have z := congrArg (fun l => l[0]?) e
      simpa using z
    have g1 : ms[place + 1]? = some ns.length := by
      have z := congrArg (fun l => l[1]?) e
      simpa using z
    have ed : ms.drop (place + 2) = ns ++ rest := by
      rw [← List.drop_drop, e]
      rfl
    have hl2 := congrArg List.length e
    rw [List.length_drop, List.length_cons, List.length_cons, List.length_append] at hl2
    have ee : endOf ms place 2 = place + 2 + ns.length := by
      unfold endOf
      rw [if_pos rfl, List.getD_eq_getElem?_getD, g1, Option.getD_some]
    have ef : firstOf place 2 = place + 2 := by
      unfold firstOf
      rw [if_pos rfl]
    refine ⟨g0, h22, fun _ => by omega, by omega, ?_, ?_, fun z => absurd rfl z⟩
    · rw [ef, ee, ed, Nat.add_sub_cancel_left, List.take_left]
    · rw [ee, ← List.drop_drop, ed, List.drop_left]
      exact hp
theorem pz_nil {cs : List (Nat × List Nat)} (h : Pz [] cs) : cs = [] := by
  cases cs with
  | nil => rfl
  | cons c cs =>
    obtain ⟨rest, _, hc, _⟩ := h
    rcases hc with ⟨_, _, e⟩ | ⟨_, e⟩ <;> cases e
theorem l_numbers_of {H : Hp} {l : Addr} {ms : List Nat} {p v : Nat} (h : SqL K H l (vNs ms)) (hv : ms[p]? = some v) (h22 : v ≤ 22) (h2 : v = 2 → p + 1 < ms.length) (hle : endOf ms p v ≤ ms.length) (h3 : ms.length ≤ 30000) :
    SpL (sp_numbers_of K) [.ref l, vN p] H (vNs ((ms.drop (firstOf p v)).take (endOf ms p v - firstOf p v))) := fun _ e _ q _ => ⟨l, ms, p, v, rfl, ex_l e h, hv, h22, h2, hle, h3, q⟩
section
variable {σ : L2.St} {H : Hp} {ta tb te t1 t2 t3 : TE} {tz : TS} {D : Ends} {x y : V} {sp : Sp} {E : XK}
/-- x = f(a, b, a new list) -/
theorem q_answer {i : Nat} {zs : List V} (h1 : Ev t1 σ H x) (h2 : Ev t2 σ H y) (h3 : EvL t3 σ H zs) (k : ∀ ln H1, Ex H H1 → H1 ln = some (.lst zs) → sp [x, y, .ref ln] H1 (fun v H2 => tz D (σ.set i (some v)) H2) E) :
    tSeq (tAsg (tCall sp [] E (tCons t1 (tCons t2 (tCons t3 tNil)))) (gName i)) tz D σ H :=
  h1 H (Ex.refl H) _ fun Ha ea => h2 Ha ea _ fun Hb eb => h3 Hb (ea.trans eb) _ fun ln Hc _ ec hc => k ln Hc ((ea.trans eb).trans ec) hc
theorem q_ext {l b : Addr} {xs zs : List V} (hl : H l = some (.lst xs)) (hb : H b = some (.lst zs)) (ha : Ev ta σ H (.ref l)) (h : Ev te σ H (.ref b)) (hz : xs.length + zs.length ≤ 100000) (k : ∀ H1, Ex H H1 → tz D σ (upd H1 l (.lst (xs ++ zs)))) :
    tSeq (tDrop (tBM K "list" rExtend ta (tCons te tNil))) tz D σ H := ha H (Ex.refl H) _ fun H1 e1 =>
  ⟨Or.inl ⟨rfl, xs, sq_of (e1 l _ hl)⟩, h H1 e1 _ fun H2 e2 => ⟨l, b, xs, zs, rfl, rfl, e2 l _ (e1 l _ hl), (e1.trans e2) b _ hb, sz_of hz, k H2 (e1.trans e2)⟩⟩
theorem ex_upd {H3 H4 : Hp} {a : Addr} (e : Ex H H3) (u : Upd a H3 H4) (ha : H a = none) : Ex H H4 := fun b o h => u b o (e b o h) fun z => by
  rw [z, ha] at h
  cases h
end
def sp_session (K : PySem.W.Frag) : Sp := fun vs H Q _ => ∃ (l : Addr) (ms : List Nat) (ops : List (Nat × List Nat)), vs = [.ref l] ∧ SqL K H l (vNs ms) ∧ ms.length ≤ 30000 ∧ Pz ms ops ∧ ops.length ≤ 256 ∧ ∀ H2 p, H2 p = some (.lst ((rowsOf none ops).map V.int)) → Q (.ref p) H2
theorem ok_session_answers (T : Txt K mg C) : Ok P w K mg base 8 "session_answers" ["calls"] (sp_session K) := by
  refine T.d_session_answers.ok sc_session_answers (fun vs H Q E h => ?_) (fun f cdv A outer s0 H vs Q E hr h => ?_)
  · obtain ⟨l, ms, ops, rfl, _⟩ := h
    rfl
  · obtain ⟨l, ms, ops, rfl, hS, hms, hP, hops, q⟩ := h
    refine ⟨_, (pss_cons (ps_set (i := 1) sc_session_answers.nd rfl (Or.inl rfl) (pe_mk0 (ok_init T) T.mkc T.kpc T.gC (hr.mono (by decide))))
      (pss_cons (ps_set (i := 2) sc_session_answers.nd rfl (Or.inl rfl) (pe_lst pa_nil))
      (pss_cons (ps_set (i := 3) sc_session_answers.nd rfl (Or.inl rfl) pe_int)
      (pss_cons (ps_while PassesOwn.never (pt_cmpR op_lt (pv 3) (pe_callB call_len_seq (by rfl) T.z_len PySem.boot_len (pa_cons (pv 0) pa_nil)) (nomark _))
      (pss_cons (ps_set (i := 4) sc_session_answers.nd rfl (Or.inl rfl) (pe_ok (ok_answer_of T) (hr.mono (by decide)) (pa_cons (pv 1) (pa_cons (pe_ix ix_list (pv 0) (pv 3) (fun _ _ => rfl)) (pa_cons (pe_ok (ok_numbers_of T) (hr.mono (by decide)) (pa_cons (pv 0) (pa_cons (pv 3) pa_nil))) pa_nil)))))
      (pss_cons (ps_expr (pe_bm PySem.F.plainAttrs_list PySem.F.slot_list_append PySem.F.type_list_append mt_append (pv 2) (pa_cons (pe_callB call_len_seq (by rfl) T.z_len PySem.boot_len (pa_cons (pv 4) pa_nil)) pa_nil)))
      (pss_cons (ps_expr (pe_bm PySem.F.plainAttrs_list PySem.F.slot_list_extend PySem.F.type_list_extend mt_extend (pv 2) (pa_cons (pv 4) pa_nil)))
      (pss_one (ps_set (i := 3) sc_session_answers.nd rfl (Or.inl rfl) (pe_ok (ok_end_of_call T) (hr.mono (by decide)) (pa_cons (pv 0) (pa_cons (pv 3) pa_nil)))))))))
      (pss_one (ps_ret (pv 2))))))), ?_⟩
    intro a dx na ndx ne
    refine ⟨a, dx, rfl, upd_same, fun H1 p0 u hp0 hh0 => ⟨rfl, ?_⟩⟩
    have e1 : Ex H H1 := fun b o hb => by
      have hb1 : b ≠ a := ne_of_none hb na
      have hb2 : b ≠ dx := ne_of_none hb ndx
      exact u b o (by rw [upd_ne hb1, upd_ne hb2]; exact hb) hb1
    refine q_asgL el_nil fun pf H2 hpf e2 h2 => ?_
    have hfa : pf ≠ a := fun z => by
      obtain ⟨⟨d, g⟩, _⟩ := hh0
      rw [z, g] at hpf
      cases hpf
    have hfp : p0 ≠ pf := fun z => by
      have g := hh0.2
      rw [z, hpf] at g
      cases g
    have hpfH : H pf = none := fresh_back e1 hpf
    refine q_asg (v := vN 0) ev_c fun H3 e3 => ?_
    refine q_while (fun m σ' H' => ∃ (p : Addr) (st : Kv439.State) (rest : List (Nat × List Nat)) (F : List Int) (place : Nat) (v4 : Option V), σ' = [some (.ref l), some (.ref a), some (.ref pf), some (vN place), v4] ∧ Ex H H' ∧
      HallAt C H' a p (ringOf st) (timeOf st) ∧ Good st ∧ p ≠ pf ∧ H' pf = some (.lst (F.map V.int)) ∧ Pz (ms.drop place) rest ∧ place ≤ ms.length ∧ F ++ rowsOf st rest = rowsOf none ops ∧ F.length + 14 * rest.length ≤ 3584 ∧ m = rest.length) ops.length
      ⟨p0, none, ops, [], 0, none, rfl, (e1.trans e2).trans e3, hh0.mono (e2.trans e3), trivial, hfp, e3 _ _ h2, hP, Nat.zero_le _, rfl, by
        show 0 + 14 * ops.length ≤ 3584
        omega, rfl⟩ (fun m σ' H4 hw => ?_)
    obtain ⟨p, st, rest, F, place, v4, rfl, e4, hh, hg, hpp, hf, hz, hpl, hrow, hlen, rfl⟩ := hw
    refine ⟨_, et_lt (m := place) (n := ms.length) (ev_var rfl) (ev_lenR (ev_var rfl) (ex_l e4 hS)), fun c H5 e5 => ?_, fun c H5 e5 => ?_⟩
    · have c1 := of_decide_eq_true c
      cases rest with
      | nil =>
        have z : ms.drop place = [] := hz
        have z2 := congrArg List.length z
        rw [List.length_drop] at z2
        have z3 : ms.length - place = 0 := z2
        omega
      | cons c0 cs =>
        obtain ⟨op, ns⟩ := c0
        obtain ⟨g0, g22, g2, gle, gns, gz, gl⟩ := pz_at hz
        have e45 := e4.trans e5
        refine ⟨fun σ' H' => ∃ (p : Addr) (st : Kv439.State) (F : List Int) (place : Nat) (v4 : Option V), σ' = [some (.ref l), some (.ref a), some (.ref pf), some (vN place), v4] ∧ Ex H H' ∧
          HallAt C H' a p (ringOf st) (timeOf st) ∧ Good st ∧ p ≠ pf ∧ H' pf = some (.lst (F.map V.int)) ∧ Pz (ms.drop place) cs ∧ place ≤ ms.length ∧ F ++ rowsOf st cs = rowsOf none ops ∧ F.length + 14 * cs.length ≤ 3584, fun σ2 H2 hN => ?_, ?_⟩
        · obtain ⟨p, st, F, place, v4, a1, a2, a3, a4, a5, a6, a7, a8, a9, a10⟩ := hN
          exact ⟨cs.length, Nat.lt_succ_self _, p, st, cs, F, place, v4, a1, a2, a3, a4, a5, a6, a7, a8, a9, a10, rfl⟩
        have hh5 := hh.mono e5
        have hf5 := e5 _ _ hf
        refine q_answer (x := .ref a) (y := vN op) (ev_var rfl) (ev_ixN (ev_var rfl) (ev_var rfl) (ex_l e45 hS) g0) (el_call (ea_cons (ev_var rfl) (ea_cons (ev_var rfl) ea_nil)) (l_numbers_of (ex_l e45 hS) g0 g22 g2 gle hms)) fun ln H6 e6 h6 => ?_
        rw [gns] at h6
        have hf6 := e6 _ _ hf5
        refine ⟨a, p, ln, st, op, ns, rfl, hh5.mono e6, hg, sq_of h6, g22, gl, fun H7 qa p' u7 hp7 hh7 hq7 h7 => ?_⟩
        have hf7 := u7 _ _ hf6 hfa
        have e7 : Ex H H7 := ex_upd (e45.trans e6) u7 na
        have hpp7 : p' ≠ pf := by
          rcases hp7 with z | z
          · rw [z]
            exact hpp
          · intro y
            rw [y, hf6] at z
            cases z
        have hqf : qa ≠ pf := fun y => by
          rw [y, hf6] at hq7
          cases hq7
        have hrl := short_execute hg (opOf op ns)
        have hcs : F.length + 14 * (cs.length + 1) ≤ 3584 := hlen
        refine q_app (xs := F.map V.int) (v := .int ((resultRow (execute st (opOf op ns)).2).length : Int)) hf7 (ev_var rfl) (ev_is (ev_len (ev_var rfl) (sq_of h7)) (by rw [List.length_map])) (by rw [List.length_map]; omega) fun H8 e8 => ?_
        have hq8 : (upd H8 pf (.lst (F.map V.int ++ [.int ((resultRow (execute st (opOf op ns)).2).length : Int)]))) qa = some (.lst ((resultRow (execute st (opOf op ns)).2).map V.int)) := by
          rw [upd_ne hqf]
          exact e8 _ _ h7
        have e8' : Ex H (upd H8 pf (.lst (F.map V.int ++ [.int ((resultRow (execute st (opOf op ns)).2).length : Int)]))) := Ex.mut (e7.trans e8) hpfH
        refine q_ext upd_same hq8 (ev_var rfl) (ev_var rfl) (by rw [List.length_append, List.length_map, List.length_map, List.length_singleton]; omega) fun H9 e9 => ?_
        have e9' := Ex.mut (p := pf) (o := .lst (F.map V.int ++ [.int ((resultRow (execute st (opOf op ns)).2).length : Int)] ++ (resultRow (execute st (opOf op ns)).2).map V.int)) (e8'.trans e9) hpfH
        refine s_asg (ev_call (ea_cons (ev_var rfl) (ea_cons (ev_var rfl) ea_nil)) (v_end_of_call (ex_l e9' hS) g0 g22 g2)) fun H10 e10 => ?_
        have hh8 : HallAt C (upd H8 pf (.lst (F.map V.int ++ [.int ((resultRow (execute st (opOf op ns)).2).length : Int)]))) a p' (ringOf (execute st (opOf op ns)).1) (timeOf (execute st (opOf op ns)).1) := by
          obtain ⟨⟨d, x1⟩, x2⟩ := hh7.mono e8
          exact ⟨⟨d, by rw [upd_ne (Ne.symm hfa)]; exact x1⟩, by rw [upd_ne hpp7]; exact x2⟩
        have hh9 : HallAt C (upd H9 pf (.lst (F.map V.int ++ [.int ((resultRow (execute st (opOf op ns)).2).length : Int)] ++ (resultRow (execute st (opOf op ns)).2).map V.int))) a p' (ringOf (execute st (opOf op ns)).1) (timeOf (execute st (opOf op ns)).1) := by
          obtain ⟨⟨d, x1⟩, x2⟩ := hh8.mono e9
          exact ⟨⟨d, by rw [upd_ne (Ne.symm hfa)]; exact x1⟩, by rw [upd_ne hpp7]; exact x2⟩
        refine ⟨p', (execute st (opOf op ns)).1, F ++ (((resultRow (execute st (opOf op ns)).2).length : Int) :: resultRow (execute st (opOf op ns)).2), endOf ms place op, _, rfl, e9'.trans e10, hh9.mono e10, good_execute hg _, hpp7, ?_, gz, gle, ?_, ?_⟩
        · refine e10 _ _ ?_
          rw [upd_same, List.map_append, List.append_assoc]
          rfl
        · rw [← hrow]
          show F ++ (((resultRow (execute st (opOf op ns)).2).length : Int) :: resultRow (execute st (opOf op ns)).2) ++ rowsOf (execute st (opOf op ns)).1 cs = F ++ (((resultRow (execute st (opOf op ns)).2).length : Int) :: resultRow (execute st (opOf op ns)).2 ++ rowsOf (execute st (opOf op ns)).1 cs)
          rw [List.append_assoc]
        · rw [List.length_append, List.length_cons]
          omega
    · have c1 := of_decide_eq_false c
      have z : ms.drop place = [] := List.drop_eq_nil_of_le (by omega)
      rw [z] at hz
      obtain rfl := pz_nil hz
      have er : F = rowsOf none ops := (List.append_nil F).symm.trans hrow
      rw [er] at hf
      exact s_ret (ev_var rfl) fun H6 e6 => q H6 pf (e6 _ _ (e5 _ _ hf))
/-! ### answers -/
theorem ok_answers (T : Txt K mg C) : Ok P w K mg base 9 "answers" ["calls"] (sp_session K) := by
  refine T.d_answers.ok sc_answers (fun vs H Q E h => ?_) (fun f cdv A outer s0 H vs Q E hr h => ?_)
  · obtain ⟨l, ms, ops, rfl, _⟩ := h
    rfl
  · obtain ⟨l, ms, ops, rfl, hS, hms, hP, hops, q⟩ := h
    refine ⟨_, (pss_one (ps_ret (pe_ok (ok_session_answers T) (hr.mono (by decide)) (pa_cons (pv 0) pa_nil)))), ?_⟩
    exact s_retCall (ea_cons (ev_var rfl) ea_nil) fun H1 e1 => ⟨l, ms, ops, rfl, ex_l e1 hS, hms, hP, hops, q⟩
end
end Sw
/-! The end: from what the top has written to the row. -/
namespace Sw
open PySem PySem.Spec PyProof.Rows L2 Evl
open PySem.W (WData)

section
variable {P : Program} {w : World} {K : PySem.W.Frag} {mg : Str → Option Value} {base : Heap} {C : Addr}
theorem cr_mk {h : Heap} {x : Str} {i : Int} {t : Tok} (X : K.In h) (G : h.Ns mainGlobals mg) (a : PySem.W.nsIn K mainGlobals x = some (some (.int i t))) : CR mg x i := ⟨t, PySem.W.mg_of X G a⟩
theorem tr_mk {h : Heap} {x : Str} {f : Addr} {xs : List Nat} {us : List Value} {n : Nat} {od : Option Addr} {sl : Array (Option Value)} (X : K.In h) (G : h.Ns mainGlobals mg) (a : PySem.W.nsIn K mainGlobals x = some (some (.ref f)))
    (l : K.lookup f = some ⟨.type "tuple", od, .seq us.toArray n, sl⟩) (hu : us.length ≤ 1000) (v : Vals (vNs xs) us) : ∃ a, mg x = some (.ref a) ∧ ∀ H, SqT K H a (vNs xs) :=
  ⟨f, PySem.W.mg_of X G a, fun H => .inr ⟨_, us.toArray, n, l, rfl, rfl, by rw [List.size_toArray]; exact Nat.le_trans hu (by decide), by simpa using v⟩⟩
/-- what the top has written of the class -/
def HallFacts (K : PySem.W.Frag) (mg : Str → Option Value) : Prop := ∃ C, mg "Hall" = some (.ref C) ∧ Cls K C ∧ PySem.W.makesIn K C = true ∧ PySem.W.keepIn K (.ref C) = true ∧ NoAttr K C "states" ∧ NoAttr K C "time" ∧
  MR K C "__init__" "Hall.__init__" s_init ["self"] ∧ MR K C "begin" "Hall.begin" s_begin ["self", "sections"] ∧ MR K C "put_ring" "Hall.put_ring" s_put_ring ["self", "states"] ∧ MR K C "pass_steps" "Hall.pass_steps" s_pass_steps ["self", "steps"]
theorem hall_mk {h : Heap} {C : Addr} (X : K.In h) (G : h.Ns mainGlobals mg) (aC : PySem.W.nsIn K mainGlobals "Hall" = some (some (.ref C))) (g1 : PySem.W.plainGet K C Str.empty = true) (g2 : PySem.W.hasDictIn K C = true)
    (g3 : PySem.W.plainOver K C = true) (g4 : PySem.W.findIn K (.ref C) "__setattr__" = some (some (.builtin "object.__setattr__"))) (g5 : PySem.W.makesIn K C = true) (g6 : PySem.W.keepIn K (.ref C) = true)
    (g7 : PySem.W.findIn K (.ref C) "states" = some none) (g8 : PySem.W.findIn K (.ref C) "time" = some none)
    (m1 : MR K C "__init__" "Hall.__init__" s_init ["self"]) (m2 : MR K C "begin" "Hall.begin" s_begin ["self", "sections"]) (m3 : MR K C "put_ring" "Hall.put_ring" s_put_ring ["self", "states"]) (m4 : MR K C "pass_steps" "Hall.pass_steps" s_pass_steps ["self", "steps"]) :
    HallFacts K mg := ⟨C, PySem.W.mg_of X G aC, ⟨g1, g2, g3, g4⟩, g5, g6, g7, g8, m1, m2, m3, m4⟩
/-- the row's def, by the text -/
theorem fin {fa : Addr} (T : Txt K mg C) (hfa : mg "answers" = some (.ref fa)) : ∃ fd : FuncData, (∀ (s : Shared) (us : List Value), us.length = (["calls"] : List Str).length → BindsTo s fd ⟨us, []⟩ ((["calls"] : List Str).zip us)) ∧
    ∀ base : Heap, K.In base → base.Ns mainGlobals mg → FnOk P w K mg base CX0 9 fa fd ["calls"] (sp_session K) := by
  obtain ⟨f, fd, F, m, b⟩ := T.d_answers
  have e := hfa.symm.trans m
  cases e
  have F2 := F
  obtain ⟨oc, od, kV, doc, pm, an, cdv, ct, osl, rfl, lk, hcd⟩ := F.ex
  refine ⟨PySem.W.fnOf "answers" "answers" (defArgs s_answers) (defBody s_answers) (defScope s_answers) .none kV doc pm an cdv ct, fun s us hu => match us, hu with | [_], _ => .of_eq rfl, fun base _ _ => ?_⟩
  refine F2.ok sc_answers (fun vs H Q E h => ?_) (fun cdv A outer s0 H vs Q E hr h => ?_)
  · obtain ⟨l, ms, ops, rfl, _⟩ := h
    rfl
  · obtain ⟨l, ms, ops, rfl, hS, hms, hP, hops, q⟩ := h
    refine ⟨_, (pss_one (ps_ret (pe_ok (ok_session_answers T) (hr.mono (by decide)) (pa_cons (pv 0) pa_nil)))), ?_⟩
    exact s_retCall (ea_cons (ev_var rfl) ea_nil) fun H1 e1 => ⟨l, ms, ops, rfl, ex_l e1 hS, hms, hP, hops, q⟩
end
theorem natInts_toNat {ns : List Int} (h : ∀ x ∈ ns, 0 ≤ x) : natInts (ns.map Int.toNat) = ns := by
  unfold natInts
  rw [List.map_map]
  refine (List.map_congr_left fun x hx => ?_).trans (List.map_id ns)
  exact Int.toNat_of_nonneg (h x hx)
/-- the request -/
theorem spec_end {K : PySem.W.Frag} {H : Hp} {l : Addr} {ns : List Int} {E : XK} (hs : SqL K H l (ns.map V.int)) (hl : ns.length ≤ 30000) (hb : ∀ x ∈ ns, 0 ≤ x) (hask : PyKv439.answers_asked ns = true) :
    sp_session K [.ref l] H (fun v H' => Dw K H' v (.list ((PyKv439.answers ns).map WData.int))) E := by
  have e := natInts_toNat hb
  rw [← e] at hask
  obtain ⟨ops, h1, h2, h3⟩ := asked_ops hask
  rw [e] at h3
  refine ⟨l, ns.map Int.toNat, ops, rfl, ?_, by rw [List.length_map]; exact hl, h1, h2, fun H2 p hp => ?_⟩
  · rw [vNs_ints]
    have e2 : (ns.map Int.toNat).map Int.ofNat = ns := e
    rw [e2]
    exact hs
  · rw [h3]
    exact .lst (SqL.of hp) (dw_ints _)
/-- the row's arguments and answer -/
theorem row_end : ∀ (K : PySem.W.Frag) (H : Hp) (xs : List V) (a : PySem.W.Codec.denoteAll PySem.Challenge.rw_seatwave_s01_answers.args), OnlyF H → PySem.W.Codec.withinAll PySem.Challenge.rw_seatwave_s01_answers.args a = true →
    PySem.W.Codec.app PySem.Challenge.rw_seatwave_s01_answers.args PySem.Challenge.rw_seatwave_s01_answers.asked a = true → DwAll K H xs (PySem.W.Codec.encAll PySem.Challenge.rw_seatwave_s01_answers.args a) →
    sp_session K xs H (fun v H' => Dw K H' v (PySem.Challenge.rw_seatwave_s01_answers.ret.enc (PySem.W.Codec.app PySem.Challenge.rw_seatwave_s01_answers.args PySem.Challenge.rw_seatwave_s01_answers.f a))) fun _ _ _ => False := by
  intro K H xs a hO hwi hask hx
  cases hx with
  | cons h1 h2 =>
    cases h2
    cases h1 with
    | lst hs ha =>
      have e := ints_dw a.1 _ ha
      subst e
      have q : ((PySem.W.Codec.inLen 0 30000 a.1 && a.1.all (PySem.W.Codec.inInt (_root_.Int.ofNat 0) (_root_.Int.ofNat 4294967295))) && true) = true := hwi
      rw [Bool.and_eq_true, Bool.and_eq_true] at q
      exact spec_end hs (PySem.W.Codec.inNat_iff.mp q.1.1).2 (fun x hx => (PySem.W.Codec.inInt_iff.mp (List.all_eq_true.mp q.1.2 x hx)).1) hask
end Sw
/-! What the top has written, gathered. Printed by gen.py. -/
namespace Sw
open PySem PySem.Spec PyProof.Rows L2 Evl

theorem all_mk {P : Program} {w : World} {K : PySem.W.Frag} {h : Heap} {mg : Str → Option Value} {fa : Addr} (X : K.In h) (G : h.Ns mainGlobals mg) (hfa : mg "answers" = some (.ref fa))
    (hall : HallFacts K mg)
    (d_section_after : DR K mg "section_after" s_section_after ["count", "section"])
    (d_section_before : DR K mg "section_before" s_section_before ["count", "section"])
    (d_state_after_step : DR K mg "state_after_step" s_state_after_step ["before", "state", "after"])
    (d_stepped : DR K mg "stepped" s_stepped ["states"])
    (d_after_steps : DR K mg "after_steps" s_after_steps ["states", "steps"])
    (d_with_state : DR K mg "with_state" s_with_state ["states", "section", "state"])
    (d_rotated : DR K mg "rotated" s_rotated ["states", "distance"])
    (d_mirrored : DR K mg "mirrored" s_mirrored ["states"])
    (d_seated_ring : DR K mg "seated_ring" s_seated_ring ["count"])
    (d_count_state : DR K mg "count_state" s_count_state ["states", "state"])
    (d_count_standing : DR K mg "count_standing" s_count_standing ["states"])
    (d_is_quiet : DR K mg "is_quiet" s_is_quiet ["states"])
    (d_phase_difference : DR K mg "phase_difference" s_phase_difference ["one", "other"])
    (d_phase_sum : DR K mg "phase_sum" s_phase_sum ["states"])
    (d_winding_of : DR K mg "winding_of" s_winding_of ["states"])
    (d_standing_between : DR K mg "standing_between" s_standing_between ["states", "before", "after"])
    (d_forward_in : DR K mg "forward_in" s_forward_in ["states"])
    (d_backward_in : DR K mg "backward_in" s_backward_in ["states"])
    (d_create : DR K mg "create" s_create ["hall", "sections"])
    (d_set_section : DR K mg "set_section" s_set_section ["hall", "section", "state"])
    (d_are_states : DR K mg "are_states" s_are_states ["states"])
    (d_set_all : DR K mg "set_all" s_set_all ["hall", "states"])
    (d_stand_up : DR K mg "stand_up" s_stand_up ["hall", "section"])
    (d_is_free : DR K mg "is_free" s_is_free ["states", "section"])
    (d_section_behind : DR K mg "section_behind" s_section_behind ["count", "section", "direction"])
    (d_start_wave : DR K mg "start_wave" s_start_wave ["hall", "section", "direction"])
    (d_step : DR K mg "step" s_step ["hall"])
    (d_advance : DR K mg "advance" s_advance ["hall", "steps"])
    (d_rotate : DR K mg "rotate" s_rotate ["hall", "distance"])
    (d_mirror : DR K mg "mirror" s_mirror ["hall"])
    (d_sit_down : DR K mg "sit_down" s_sit_down ["hall"])
    (d_rings_ahead : DR K mg "rings_ahead" s_rings_ahead ["states"])
    (d_quiet_time : DR K mg "quiet_time" s_quiet_time ["states"])
    (d_standing_time : DR K mg "standing_time" s_standing_time ["states", "section"])
    (d_most_standing : DR K mg "most_standing" s_most_standing ["states"])
    (d_first_place : DR K mg "first_place" s_first_place ["rings", "ring"])
    (d_first_repeat : DR K mg "first_repeat" s_first_repeat ["rings"])
    (d_cycle_of : DR K mg "cycle_of" s_cycle_of ["states"])
    (d_counted : DR K mg "counted" s_counted ["numbers"])
    (d_get_ring : DR K mg "get_ring" s_get_ring ["hall"])
    (d_get_section : DR K mg "get_section" s_get_section ["hall", "section"])
    (d_ring_after : DR K mg "ring_after" s_ring_after ["hall", "steps"])
    (d_winding_number : DR K mg "winding_number" s_winding_number ["hall"])
    (d_steps_until_quiet : DR K mg "steps_until_quiet" s_steps_until_quiet ["hall"])
    (d_cycle : DR K mg "cycle" s_cycle ["hall"])
    (d_forward_waves : DR K mg "forward_waves" s_forward_waves ["hall"])
    (d_backward_waves : DR K mg "backward_waves" s_backward_waves ["hall"])
    (d_standing_count : DR K mg "standing_count" s_standing_count ["hall"])
    (d_max_standing : DR K mg "max_standing" s_max_standing ["hall"])
    (d_first_standing : DR K mg "first_standing" s_first_standing ["hall", "section"])
    (d_quiet_if_stand_up : DR K mg "quiet_if_stand_up" s_quiet_if_stand_up ["hall", "section"])
    (d_get_state : DR K mg "get_state" s_get_state ["hall"])
    (d_first_number : DR K mg "first_number" s_first_number ["calls", "place"])
    (d_end_of_call : DR K mg "end_of_call" s_end_of_call ["calls", "place"])
    (d_numbers_of : DR K mg "numbers_of" s_numbers_of ["calls", "place"])
    (d_answer_of_change : DR K mg "answer_of_change" s_answer_of_change ["hall", "operation", "numbers"])
    (d_answer_of_query : DR K mg "answer_of_query" s_answer_of_query ["hall", "operation", "numbers"])
    (d_answer_of : DR K mg "answer_of" s_answer_of ["hall", "operation", "numbers"])
    (d_session_answers : DR K mg "session_answers" s_session_answers ["calls"])
    (d_answers : DR K mg "answers" s_answers ["calls"])
    (v_SIZES : ∃ a, mg "SIZES" = some (.ref a) ∧ ∀ H, SqT K H a (vNs [1, 2, 0, 1, 2, 0, 1, 1, 0, 0, 0, 1, 1, 0, 0, 0, 0, 0, 0, 0, 1, 1, 0]))
    (c_CREATE : CR mg "CREATE" 0)
    (c_SET_SECTION : CR mg "SET_SECTION" 1)
    (c_SET_ALL : CR mg "SET_ALL" 2)
    (c_STAND_UP : CR mg "STAND_UP" 3)
    (c_START_WAVE : CR mg "START_WAVE" 4)
    (c_STEP : CR mg "STEP" 5)
    (c_ADVANCE : CR mg "ADVANCE" 6)
    (c_ROTATE : CR mg "ROTATE" 7)
    (c_MIRROR : CR mg "MIRROR" 8)
    (c_SIT_DOWN : CR mg "SIT_DOWN" 9)
    (c_GET_RING : CR mg "GET_RING" 10)
    (c_GET_SECTION : CR mg "GET_SECTION" 11)
    (c_RING_AFTER : CR mg "RING_AFTER" 12)
    (c_WINDING_NUMBER : CR mg "WINDING_NUMBER" 13)
    (c_STEPS_UNTIL_QUIET : CR mg "STEPS_UNTIL_QUIET" 14)
    (c_CYCLE : CR mg "CYCLE" 15)
    (c_FORWARD_WAVES : CR mg "FORWARD_WAVES" 16)
    (c_BACKWARD_WAVES : CR mg "BACKWARD_WAVES" 17)
    (c_STANDING_COUNT : CR mg "STANDING_COUNT" 18)
    (c_MAX_STANDING : CR mg "MAX_STANDING" 19)
    (c_FIRST_STANDING : CR mg "FIRST_STANDING" 20)
    (c_QUIET_IF_STAND_UP : CR mg "QUIET_IF_STAND_UP" 21)
    (c_NO_SECTION : CR mg "NO_SECTION" (-2))
    (c_NO_SIMULATOR : CR mg "NO_SIMULATOR" (-11))
    (c_NOT_SEATED : CR mg "NOT_SEATED" (-17))
    (c_OUT_OF_RANGE : CR mg "OUT_OF_RANGE" (-22))
    (c_NEVER : CR mg "NEVER" (-33))
    (c_SEATED : CR mg "SEATED" 0)
    (c_STANDING : CR mg "STANDING" 1)
    (c_RESTING : CR mg "RESTING" 2)
    (c_STATES : CR mg "STATES" 3)
    (c_LEAST_SECTIONS : CR mg "LEAST_SECTIONS" 3)
    (c_MOST_SECTIONS : CR mg "MOST_SECTIONS" 12)
    (c_MOST_DIRECTION : CR mg "MOST_DIRECTION" 1)
    (c_MOST_STEPS : CR mg "MOST_STEPS" 40)
    (c_MOST_DISTANCE : CR mg "MOST_DISTANCE" 12)
    (c_TOWARDS_NEXT : CR mg "TOWARDS_NEXT" 0)
    (c_HORIZON : CR mg "HORIZON" 60)
    (z_enumerate : PySem.W.nsIn K mainGlobals "enumerate" = some none)
    (z_len : PySem.W.nsIn K mainGlobals "len" = some none)
    (z_list : PySem.W.nsIn K mainGlobals "list" = some none)
    (z_max : PySem.W.nsIn K mainGlobals "max" = some none)
    (z_range : PySem.W.nsIn K mainGlobals "range" = some none)
    : ∃ fd : FuncData, (∀ (s : Shared) (us : List Value), us.length = (["calls"] : List Str).length → BindsTo s fd ⟨us, []⟩ ((["calls"] : List Str).zip us)) ∧
    ∀ base : Heap, K.In base → base.Ns mainGlobals mg → FnOk P w K mg base CX0 9 fa fd ["calls"] (sp_session K) := by
  obtain ⟨C, hC, gl, g5, g6, g7, g8, m1, m2, m3, m4⟩ := hall
  exact fin (C := C) { cl := gl, mkc := g5, kpc := g6, gC := hC, nS := g7, nT := g8, z_enumerate := PySem.W.mg_none_of X G z_enumerate, z_len := PySem.W.mg_none_of X G z_len, z_list := PySem.W.mg_none_of X G z_list, z_max := PySem.W.mg_none_of X G z_max, z_range := PySem.W.mg_none_of X G z_range, c_CREATE := c_CREATE, c_SET_SECTION := c_SET_SECTION, c_SET_ALL := c_SET_ALL, c_STAND_UP := c_STAND_UP, c_START_WAVE := c_START_WAVE, c_STEP := c_STEP, c_ADVANCE := c_ADVANCE, c_ROTATE := c_ROTATE, c_MIRROR := c_MIRROR, c_SIT_DOWN := c_SIT_DOWN, c_GET_RING := c_GET_RING, c_GET_SECTION := c_GET_SECTION, c_RING_AFTER := c_RING_AFTER, c_WINDING_NUMBER := c_WINDING_NUMBER, c_STEPS_UNTIL_QUIET := c_STEPS_UNTIL_QUIET, c_CYCLE := c_CYCLE, c_FORWARD_WAVES := c_FORWARD_WAVES, c_BACKWARD_WAVES := c_BACKWARD_WAVES, c_STANDING_COUNT := c_STANDING_COUNT, c_MAX_STANDING := c_MAX_STANDING, c_FIRST_STANDING := c_FIRST_STANDING, c_QUIET_IF_STAND_UP := c_QUIET_IF_STAND_UP, c_NO_SECTION := c_NO_SECTION, c_NO_SIMULATOR := c_NO_SIMULATOR, c_NOT_SEATED := c_NOT_SEATED, c_OUT_OF_RANGE := c_OUT_OF_RANGE, c_NEVER := c_NEVER, c_SEATED := c_SEATED, c_STANDING := c_STANDING, c_RESTING := c_RESTING, c_STATES := c_STATES, c_LEAST_SECTIONS := c_LEAST_SECTIONS, c_MOST_SECTIONS := c_MOST_SECTIONS, c_MOST_DIRECTION := c_MOST_DIRECTION, c_MOST_STEPS := c_MOST_STEPS, c_MOST_DISTANCE := c_MOST_DISTANCE, c_TOWARDS_NEXT := c_TOWARDS_NEXT, c_HORIZON := c_HORIZON, v_SIZES := v_SIZES, d_section_after := d_section_after, d_section_before := d_section_before, d_state_after_step := d_state_after_step, d_stepped := d_stepped, d_after_steps := d_after_steps, d_with_state := d_with_state, d_rotated := d_rotated, d_mirrored := d_mirrored, d_seated_ring := d_seated_ring, d_count_state := d_count_state, d_count_standing := d_count_standing, d_is_quiet := d_is_quiet, d_phase_difference := d_phase_difference, d_phase_sum := d_phase_sum, d_winding_of := d_winding_of, d_standing_between := d_standing_between, d_forward_in := d_forward_in, d_backward_in := d_backward_in, d_create := d_create, d_set_section := d_set_section, d_are_states := d_are_states, d_set_all := d_set_all, d_stand_up := d_stand_up, d_is_free := d_is_free, d_section_behind := d_section_behind, d_start_wave := d_start_wave, d_step := d_step, d_advance := d_advance, d_rotate := d_rotate, d_mirror := d_mirror, d_sit_down := d_sit_down, d_rings_ahead := d_rings_ahead, d_quiet_time := d_quiet_time, d_standing_time := d_standing_time, d_most_standing := d_most_standing, d_first_place := d_first_place, d_first_repeat := d_first_repeat, d_cycle_of := d_cycle_of, d_counted := d_counted, d_get_ring := d_get_ring, d_get_section := d_get_section, d_ring_after := d_ring_after, d_winding_number := d_winding_number, d_steps_until_quiet := d_steps_until_quiet, d_cycle := d_cycle, d_forward_waves := d_forward_waves, d_backward_waves := d_backward_waves, d_standing_count := d_standing_count, d_max_standing := d_max_standing, d_first_standing := d_first_standing, d_quiet_if_stand_up := d_quiet_if_stand_up, d_get_state := d_get_state, d_first_number := d_first_number, d_end_of_call := d_end_of_call, d_numbers_of := d_numbers_of, d_answer_of_change := d_answer_of_change, d_answer_of_query := d_answer_of_query, d_answer_of := d_answer_of, d_session_answers := d_session_answers, d_answers := d_answers, d_init := m1, d_begin := m2, d_put_ring := m3, d_pass_steps := m4 } hfa
end Sw
open PySem PySem.W PyProof.Rows
set_option maxRecDepth 100000 in
set_option maxHeartbeats 0 in
theorem PySem.Challenge.cw_seatwave_s01_answers_holds : PySem.Challenge.rw_seatwave_s01_answers.Holds := by
  w_on; k_headS; (case hw => exact ⟨[.list [.int 5]], by decide +kernel, by decide +kernel⟩)
  k_fillS
  refine L2.walk_specK (r := PySem.Challenge.rw_seatwave_s01_answers) (k := 9) (CX := L2.CX0) (ps := ["calls"]) (sp := Sw.sp_session) (by decide +kernel) rfl rfl ⟨rfl, by decide, by decide⟩ (fun w h Y => PySem.W.kIn_of Y) ?F Sw.row_end (fun _ _ _ _ z => z)
  case F =>
    intro w mg fa h Y KX G hmg
    refine' Sw.all_mk KX G hmg ?hall ?d_section_after ?d_section_before ?d_state_after_step ?d_stepped ?d_after_steps ?d_with_state ?d_rotated ?d_mirrored ?d_seated_ring ?d_count_state ?d_count_standing ?d_is_quiet ?d_phase_difference ?d_phase_sum ?d_winding_of ?d_standing_between ?d_forward_in ?d_backward_in ?d_create ?d_set_section ?d_are_states ?d_set_all ?d_stand_up ?d_is_free ?d_section_behind ?d_start_wave ?d_step ?d_advance ?d_rotate ?d_mirror ?d_sit_down ?d_rings_ahead ?d_quiet_time ?d_standing_time ?d_most_standing ?d_first_place ?d_first_repeat ?d_cycle_of ?d_counted ?d_get_ring ?d_get_section ?d_ring_after ?d_winding_number ?d_steps_until_quiet ?d_cycle ?d_forward_waves ?d_backward_waves ?d_standing_count ?d_max_standing ?d_first_standing ?d_quiet_if_stand_up ?d_get_state ?d_first_number ?d_end_of_call ?d_numbers_of ?d_answer_of_change ?d_answer_of_query ?d_answer_of ?d_session_answers ?d_answers ?v_SIZES ?c_CREATE ?c_SET_SECTION ?c_SET_ALL ?c_STAND_UP ?c_START_WAVE ?c_STEP ?c_ADVANCE ?c_ROTATE ?c_MIRROR ?c_SIT_DOWN ?c_GET_RING ?c_GET_SECTION ?c_RING_AFTER ?c_WINDING_NUMBER ?c_STEPS_UNTIL_QUIET ?c_CYCLE ?c_FORWARD_WAVES ?c_BACKWARD_WAVES ?c_STANDING_COUNT ?c_MAX_STANDING ?c_FIRST_STANDING ?c_QUIET_IF_STAND_UP ?c_NO_SECTION ?c_NO_SIMULATOR ?c_NOT_SEATED ?c_OUT_OF_RANGE ?c_NEVER ?c_SEATED ?c_STANDING ?c_RESTING ?c_STATES ?c_LEAST_SECTIONS ?c_MOST_SECTIONS ?c_MOST_DIRECTION ?c_MOST_STEPS ?c_MOST_DISTANCE ?c_TOWARDS_NEXT ?c_HORIZON ?z_enumerate ?z_len ?z_list ?z_max ?z_range
    (case hall => (refine' Sw.hall_mk KX G ?aC ?g1 ?g2 ?g3 ?g4 ?g5 ?g6 ?g7 ?g8 ?m1 ?m2 ?m3 ?m4; (case aC => k_is); (case g1 => k_is); (case g2 => k_is); (case g3 => k_is); (case g4 => k_is); (case g5 => k_is); (case g6 => k_is); (case g7 => k_is); (case g8 => k_is); (case m1 => (refine' Sw.mr_mk ?a ?i ?l ?c ?k Sw.b_init; (case a => k_is); (case i => k_is); (case l => k_is); (case c => k_is); (case k => k_is))); (case m2 => (refine' Sw.mr_mk ?a ?i ?l ?c ?k Sw.b_begin; (case a => k_is); (case i => k_is); (case l => k_is); (case c => k_is); (case k => k_is))); (case m3 => (refine' Sw.mr_mk ?a ?i ?l ?c ?k Sw.b_put_ring; (case a => k_is); (case i => k_is); (case l => k_is); (case c => k_is); (case k => k_is))); (case m4 => (refine' Sw.mr_mk ?a ?i ?l ?c ?k Sw.b_pass_steps; (case a => k_is); (case i => k_is); (case l => k_is); (case c => k_is); (case k => k_is)))))
    (case d_section_after => (refine' Sw.dr_mk KX G ?a ?l ?c ?k Sw.b_section_after; (case a => k_is); (case l => k_is); (case c => k_is); (case k => k_is)))
    (case d_section_before => (refine' Sw.dr_mk KX G ?a ?l ?c ?k Sw.b_section_before; (case a => k_is); (case l => k_is); (case c => k_is); (case k => k_is)))
    (case d_state_after_step => (refine' Sw.dr_mk KX G ?a ?l ?c ?k Sw.b_state_after_step; (case a => k_is); (case l => k_is); (case c => k_is); (case k => k_is)))
    (case d_stepped => (refine' Sw.dr_mk KX G ?a ?l ?c ?k Sw.b_stepped; (case a => k_is); (case l => k_is); (case c => k_is); (case k => k_is)))
    (case d_after_steps => (refine' Sw.dr_mk KX G ?a ?l ?c ?k Sw.b_after_steps; (case a => k_is); (case l => k_is); (case c => k_is); (case k => k_is)))
    (case d_with_state => (refine' Sw.dr_mk KX G ?a ?l ?c ?k Sw.b_with_state; (case a => k_is); (case l => k_is); (case c => k_is); (case k => k_is)))
    (case d_rotated => (refine' Sw.dr_mk KX G ?a ?l ?c ?k Sw.b_rotated; (case a => k_is); (case l => k_is); (case c => k_is); (case k => k_is)))
    (case d_mirrored => (refine' Sw.dr_mk KX G ?a ?l ?c ?k Sw.b_mirrored; (case a => k_is); (case l => k_is); (case c => k_is); (case k => k_is)))
    (case d_seated_ring => (refine' Sw.dr_mk KX G ?a ?l ?c ?k Sw.b_seated_ring; (case a => k_is); (case l => k_is); (case c => k_is); (case k => k_is)))
    (case d_count_state => (refine' Sw.dr_mk KX G ?a ?l ?c ?k Sw.b_count_state; (case a => k_is); (case l => k_is); (case c => k_is); (case k => k_is)))
    (case d_count_standing => (refine' Sw.dr_mk KX G ?a ?l ?c ?k Sw.b_count_standing; (case a => k_is); (case l => k_is); (case c => k_is); (case k => k_is)))
    (case d_is_quiet => (refine' Sw.dr_mk KX G ?a ?l ?c ?k Sw.b_is_quiet; (case a => k_is); (case l => k_is); (case c => k_is); (case k => k_is)))
    (case d_phase_difference => (refine' Sw.dr_mk KX G ?a ?l ?c ?k Sw.b_phase_difference; (case a => k_is); (case l => k_is); (case c => k_is); (case k => k_is)))
    (case d_phase_sum => (refine' Sw.dr_mk KX G ?a ?l ?c ?k Sw.b_phase_sum; (case a => k_is); (case l => k_is); (case c => k_is); (case k => k_is)))
    (case d_winding_of => (refine' Sw.dr_mk KX G ?a ?l ?c ?k Sw.b_winding_of; (case a => k_is); (case l => k_is); (case c => k_is); (case k => k_is)))
    (case d_standing_between => (refine' Sw.dr_mk KX G ?a ?l ?c ?k Sw.b_standing_between; (case a => k_is); (case l => k_is); (case c => k_is); (case k => k_is)))
    (case d_forward_in => (refine' Sw.dr_mk KX G ?a ?l ?c ?k Sw.b_forward_in; (case a => k_is); (case l => k_is); (case c => k_is); (case k => k_is)))
    (case d_backward_in => (refine' Sw.dr_mk KX G ?a ?l ?c ?k Sw.b_backward_in; (case a => k_is); (case l => k_is); (case c => k_is); (case k => k_is)))
    (case d_create => (refine' Sw.dr_mk KX G ?a ?l ?c ?k Sw.b_create; (case a => k_is); (case l => k_is); (case c => k_is); (case k => k_is)))
    (case d_set_section => (refine' Sw.dr_mk KX G ?a ?l ?c ?k Sw.b_set_section; (case a => k_is); (case l => k_is); (case c => k_is); (case k => k_is)))
    (case d_are_states => (refine' Sw.dr_mk KX G ?a ?l ?c ?k Sw.b_are_states; (case a => k_is); (case l => k_is); (case c => k_is); (case k => k_is)))
    (case d_set_all => (refine' Sw.dr_mk KX G ?a ?l ?c ?k Sw.b_set_all; (case a => k_is); (case l => k_is); (case c => k_is); (case k => k_is)))
    (case d_stand_up => (refine' Sw.dr_mk KX G ?a ?l ?c ?k Sw.b_stand_up; (case a => k_is); (case l => k_is); (case c => k_is); (case k => k_is)))
    (case d_is_free => (refine' Sw.dr_mk KX G ?a ?l ?c ?k Sw.b_is_free; (case a => k_is); (case l => k_is); (case c => k_is); (case k => k_is)))
    (case d_section_behind => (refine' Sw.dr_mk KX G ?a ?l ?c ?k Sw.b_section_behind; (case a => k_is); (case l => k_is); (case c => k_is); (case k => k_is)))
    (case d_start_wave => (refine' Sw.dr_mk KX G ?a ?l ?c ?k Sw.b_start_wave; (case a => k_is); (case l => k_is); (case c => k_is); (case k => k_is)))
    (case d_step => (refine' Sw.dr_mk KX G ?a ?l ?c ?k Sw.b_step; (case a => k_is); (case l => k_is); (case c => k_is); (case k => k_is)))
    (case d_advance => (refine' Sw.dr_mk KX G ?a ?l ?c ?k Sw.b_advance; (case a => k_is); (case l => k_is); (case c => k_is); (case k => k_is)))
    (case d_rotate => (refine' Sw.dr_mk KX G ?a ?l ?c ?k Sw.b_rotate; (case a => k_is); (case l => k_is); (case c => k_is); (case k => k_is)))
    (case d_mirror => (refine' Sw.dr_mk KX G ?a ?l ?c ?k Sw.b_mirror; (case a => k_is); (case l => k_is); (case c => k_is); (case k => k_is)))
    (case d_sit_down => (refine' Sw.dr_mk KX G ?a ?l ?c ?k Sw.b_sit_down; (case a => k_is); (case l => k_is); (case c => k_is); (case k => k_is)))
    (case d_rings_ahead => (refine' Sw.dr_mk KX G ?a ?l ?c ?k Sw.b_rings_ahead; (case a => k_is); (case l => k_is); (case c => k_is); (case k => k_is)))
    (case d_quiet_time => (refine' Sw.dr_mk KX G ?a ?l ?c ?k Sw.b_quiet_time; (case a => k_is); (case l => k_is); (case c => k_is); (case k => k_is)))
    (case d_standing_time => (refine' Sw.dr_mk KX G ?a ?l ?c ?k Sw.b_standing_time; (case a => k_is); (case l => k_is); (case c => k_is); (case k => k_is)))
    (case d_most_standing => (refine' Sw.dr_mk KX G ?a ?l ?c ?k Sw.b_most_standing; (case a => k_is); (case l => k_is); (case c => k_is); (case k => k_is)))
    (case d_first_place => (refine' Sw.dr_mk KX G ?a ?l ?c ?k Sw.b_first_place; (case a => k_is); (case l => k_is); (case c => k_is); (case k => k_is)))
    (case d_first_repeat => (refine' Sw.dr_mk KX G ?a ?l ?c ?k Sw.b_first_repeat; (case a => k_is); (case l => k_is); (case c => k_is); (case k => k_is)))
    (case d_cycle_of => (refine' Sw.dr_mk KX G ?a ?l ?c ?k Sw.b_cycle_of; (case a => k_is); (case l => k_is); (case c => k_is); (case k => k_is)))
    (case d_counted => (refine' Sw.dr_mk KX G ?a ?l ?c ?k Sw.b_counted; (case a => k_is); (case l => k_is); (case c => k_is); (case k => k_is)))
    (case d_get_ring => (refine' Sw.dr_mk KX G ?a ?l ?c ?k Sw.b_get_ring; (case a => k_is); (case l => k_is); (case c => k_is); (case k => k_is)))
    (case d_get_section => (refine' Sw.dr_mk KX G ?a ?l ?c ?k Sw.b_get_section; (case a => k_is); (case l => k_is); (case c => k_is); (case k => k_is)))
    (case d_ring_after => (refine' Sw.dr_mk KX G ?a ?l ?c ?k Sw.b_ring_after; (case a => k_is); (case l => k_is); (case c => k_is); (case k => k_is)))
    (case d_winding_number => (refine' Sw.dr_mk KX G ?a ?l ?c ?k Sw.b_winding_number; (case a => k_is); (case l => k_is); (case c => k_is); (case k => k_is)))
    (case d_steps_until_quiet => (refine' Sw.dr_mk KX G ?a ?l ?c ?k Sw.b_steps_until_quiet; (case a => k_is); (case l => k_is); (case c => k_is); (case k => k_is)))
    (case d_cycle => (refine' Sw.dr_mk KX G ?a ?l ?c ?k Sw.b_cycle; (case a => k_is); (case l => k_is); (case c => k_is); (case k => k_is)))
    (case d_forward_waves => (refine' Sw.dr_mk KX G ?a ?l ?c ?k Sw.b_forward_waves; (case a => k_is); (case l => k_is); (case c => k_is); (case k => k_is)))
    (case d_backward_waves => (refine' Sw.dr_mk KX G ?a ?l ?c ?k Sw.b_backward_waves; (case a => k_is); (case l => k_is); (case c => k_is); (case k => k_is)))
    (case d_standing_count => (refine' Sw.dr_mk KX G ?a ?l ?c ?k Sw.b_standing_count; (case a => k_is); (case l => k_is); (case c => k_is); (case k => k_is)))
    (case d_max_standing => (refine' Sw.dr_mk KX G ?a ?l ?c ?k Sw.b_max_standing; (case a => k_is); (case l => k_is); (case c => k_is); (case k => k_is)))
    (case d_first_standing => (refine' Sw.dr_mk KX G ?a ?l ?c ?k Sw.b_first_standing; (case a => k_is); (case l => k_is); (case c => k_is); (case k => k_is)))
    (case d_quiet_if_stand_up => (refine' Sw.dr_mk KX G ?a ?l ?c ?k Sw.b_quiet_if_stand_up; (case a => k_is); (case l => k_is); (case c => k_is); (case k => k_is)))
    (case d_get_state => (refine' Sw.dr_mk KX G ?a ?l ?c ?k Sw.b_get_state; (case a => k_is); (case l => k_is); (case c => k_is); (case k => k_is)))
    (case d_first_number => (refine' Sw.dr_mk KX G ?a ?l ?c ?k Sw.b_first_number; (case a => k_is); (case l => k_is); (case c => k_is); (case k => k_is)))
    (case d_end_of_call => (refine' Sw.dr_mk KX G ?a ?l ?c ?k Sw.b_end_of_call; (case a => k_is); (case l => k_is); (case c => k_is); (case k => k_is)))
    (case d_numbers_of => (refine' Sw.dr_mk KX G ?a ?l ?c ?k Sw.b_numbers_of; (case a => k_is); (case l => k_is); (case c => k_is); (case k => k_is)))
    (case d_answer_of_change => (refine' Sw.dr_mk KX G ?a ?l ?c ?k Sw.b_answer_of_change; (case a => k_is); (case l => k_is); (case c => k_is); (case k => k_is)))
    (case d_answer_of_query => (refine' Sw.dr_mk KX G ?a ?l ?c ?k Sw.b_answer_of_query; (case a => k_is); (case l => k_is); (case c => k_is); (case k => k_is)))
    (case d_answer_of => (refine' Sw.dr_mk KX G ?a ?l ?c ?k Sw.b_answer_of; (case a => k_is); (case l => k_is); (case c => k_is); (case k => k_is)))
    (case d_session_answers => (refine' Sw.dr_mk KX G ?a ?l ?c ?k Sw.b_session_answers; (case a => k_is); (case l => k_is); (case c => k_is); (case k => k_is)))
    (case d_answers => (refine' Sw.dr_mk KX G ?a ?l ?c ?k Sw.b_answers; (case a => k_is); (case l => k_is); (case c => k_is); (case k => k_is)))
    (case v_SIZES => (refine' Sw.tr_mk KX G ?a ?l ?u ?v; (case a => k_is); (case l => k_is); (case u => decide); (case v => repeat' (first | exact .nil | refine .cons ⟨_, rfl⟩ ?_))))
    (case c_CREATE => (refine' Sw.cr_mk KX G ?a; (case a => k_is)))
    (case c_SET_SECTION => (refine' Sw.cr_mk KX G ?a; (case a => k_is)))
    (case c_SET_ALL => (refine' Sw.cr_mk KX G ?a; (case a => k_is)))
    (case c_STAND_UP => (refine' Sw.cr_mk KX G ?a; (case a => k_is)))
    (case c_START_WAVE => (refine' Sw.cr_mk KX G ?a; (case a => k_is)))
    (case c_STEP => (refine' Sw.cr_mk KX G ?a; (case a => k_is)))
    (case c_ADVANCE => (refine' Sw.cr_mk KX G ?a; (case a => k_is)))
    (case c_ROTATE => (refine' Sw.cr_mk KX G ?a; (case a => k_is)))
    (case c_MIRROR => (refine' Sw.cr_mk KX G ?a; (case a => k_is)))
    (case c_SIT_DOWN => (refine' Sw.cr_mk KX G ?a; (case a => k_is)))
    (case c_GET_RING => (refine' Sw.cr_mk KX G ?a; (case a => k_is)))
    (case c_GET_SECTION => (refine' Sw.cr_mk KX G ?a; (case a => k_is)))
    (case c_RING_AFTER => (refine' Sw.cr_mk KX G ?a; (case a => k_is)))
    (case c_WINDING_NUMBER => (refine' Sw.cr_mk KX G ?a; (case a => k_is)))
    (case c_STEPS_UNTIL_QUIET => (refine' Sw.cr_mk KX G ?a; (case a => k_is)))
    (case c_CYCLE => (refine' Sw.cr_mk KX G ?a; (case a => k_is)))
    (case c_FORWARD_WAVES => (refine' Sw.cr_mk KX G ?a; (case a => k_is)))
    (case c_BACKWARD_WAVES => (refine' Sw.cr_mk KX G ?a; (case a => k_is)))
    (case c_STANDING_COUNT => (refine' Sw.cr_mk KX G ?a; (case a => k_is)))
    (case c_MAX_STANDING => (refine' Sw.cr_mk KX G ?a; (case a => k_is)))
    (case c_FIRST_STANDING => (refine' Sw.cr_mk KX G ?a; (case a => k_is)))
    (case c_QUIET_IF_STAND_UP => (refine' Sw.cr_mk KX G ?a; (case a => k_is)))
    (case c_NO_SECTION => (refine' Sw.cr_mk KX G ?a; (case a => k_is)))
    (case c_NO_SIMULATOR => (refine' Sw.cr_mk KX G ?a; (case a => k_is)))
    (case c_NOT_SEATED => (refine' Sw.cr_mk KX G ?a; (case a => k_is)))
    (case c_OUT_OF_RANGE => (refine' Sw.cr_mk KX G ?a; (case a => k_is)))
    (case c_NEVER => (refine' Sw.cr_mk KX G ?a; (case a => k_is)))
    (case c_SEATED => (refine' Sw.cr_mk KX G ?a; (case a => k_is)))
    (case c_STANDING => (refine' Sw.cr_mk KX G ?a; (case a => k_is)))
    (case c_RESTING => (refine' Sw.cr_mk KX G ?a; (case a => k_is)))
    (case c_STATES => (refine' Sw.cr_mk KX G ?a; (case a => k_is)))
    (case c_LEAST_SECTIONS => (refine' Sw.cr_mk KX G ?a; (case a => k_is)))
    (case c_MOST_SECTIONS => (refine' Sw.cr_mk KX G ?a; (case a => k_is)))
    (case c_MOST_DIRECTION => (refine' Sw.cr_mk KX G ?a; (case a => k_is)))
    (case c_MOST_STEPS => (refine' Sw.cr_mk KX G ?a; (case a => k_is)))
    (case c_MOST_DISTANCE => (refine' Sw.cr_mk KX G ?a; (case a => k_is)))
    (case c_TOWARDS_NEXT => (refine' Sw.cr_mk KX G ?a; (case a => k_is)))
    (case c_HORIZON => (refine' Sw.cr_mk KX G ?a; (case a => k_is)))
    (case z_enumerate => k_is)
    (case z_len => k_is)
    (case z_list => k_is)
    (case z_max => k_is)
    (case z_range => k_is)
#print axioms PySem.Challenge.cw_seatwave_s01_answers_holds
